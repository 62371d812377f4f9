import PyProof.Rows.All
import HandS.ForMost
import HandS.Defaults
import HandS.TupAny
import HandS.Deep
import HandS.Style
import HandS.TupMul
import HandS.IsInst
import HandS.Zip
import KE.SortLaws
import HandS.SortInts
import HandS.SortKw
import HandS.SetFor
import HandS.Strs
import HandS.TupSets
import KE.DataMinMax
import PyProof.SumWalk
import PyProof.SeqIndex
import PyProof.FactsAll.tuple_2
import HandS.HeadHook2
import HandS.Conv
import HandS.Star
import KE.GoesMore
import HandS.RepeatKit
import PyProof.ReprRoads
import PyProof.FitsInt
import HandS.HeadEnd
import HandS.Head3
import PySem.Challenge.RW_turnproducts_k60_whole_sights
import HandS.WordsExc
set_option Elab.async false
set_option linter.all false
/-! Cor: the core evaluator. Values are PyData, a function's locals are slots, the law's bag is a state. -/
namespace Tp
open PySem
/-- the law's bag: a list of three whole numbers -/
structure Bag where
  x : Int
  y : Int
  z : Int
  deriving DecidableEq
inductive R (α : Type) where
  | ok (a : α) (B : Bag)
  | err (c : Str) (d : PyData) (B : Bag)
  | bad
def R.bind {α β : Type} (r : R α) (k : α → Bag → R β) : R β := match r with
  | .ok a B => k a B
  | .err c d B => .err c d B
  | .bad => .bad
inductive Slot where
  | no
  | fz (d : PyData)
  | bg
  | ow (l : List PyData)
  | od (l : List (List L2.Key × PyData))
def kD : L2.Key → PyData
  | .inl i => .int i
  | .inr x => .str x
/-- a dict by its keys, as data -/
def encD (l : List (List L2.Key × PyData)) : PyData := .dict (l.map fun p => (.tuple (p.1.map kD), p.2))
abbrev Env := List Slot
abbrev EF := Env → Bag → R PyData
abbrev LF := Env → Bag → R (List PyData)
inductive SO where
  | nx (ρ : Env) (B : Bag)
  | ret (d : PyData) (B : Bag)
  | err (c : Str) (d : PyData) (B : Bag)
  | bad
abbrev SF := Env → Bag → SO
abbrev FSem := List PyData → Bag → R PyData
def lim : Nat := 2 ^ 24
/-! ### expressions -/
def oR (o : Option PyData) (B : Bag) : R PyData := match o with
  | some d => .ok d B
  | none => .bad
def eVar (i : Nat) : EF := fun ρ B => match ρ[i]? with
  | some (.fz d) => .ok d B
  | _ => .bad
def eOwn (i : Nat) : EF := fun ρ B => match ρ[i]? with
  | some (.ow l) => .ok (.list l) B
  | _ => .bad
def eOwd (i : Nat) : EF := fun ρ B => match ρ[i]? with
  | some (.od l) => .ok (encD l) B
  | _ => .bad
def eC (d : PyData) : EF := fun _ B => .ok d B
def eInt (i : Int) : EF := eC (.int i)
def lNil : LF := fun _ B => .ok [] B
def lCons (f : EF) (g : LF) : LF := fun ρ B => (f ρ B).bind fun d B => (g ρ B).bind fun ds B => .ok (d :: ds) B
def eTup (l : LF) : EF := fun ρ B => (l ρ B).bind fun ds B => .ok (.tuple ds) B
def eLst (l : LF) : EF := fun ρ B => (l ρ B).bind fun ds B => .ok (.list ds) B
def seqOf : PyData → Option (List PyData)
  | .list l => some l
  | .tuple l => some l
  | _ => none
/-- (*f, ..) -/
def eStar (f : EF) (l : LF) : EF := fun ρ B => (f ρ B).bind fun d B => (l ρ B).bind fun ds B => match seqOf d with
  | some xs => if xs.length + ds.length ≤ lim then .ok (.tuple (xs ++ ds)) B else .bad
  | none => .bad
def e1 (op : PyData → Option PyData) (f : EF) : EF := fun ρ B => (f ρ B).bind fun x B => oR (op x) B
def e2 (op : PyData → PyData → Option PyData) (f g : EF) : EF := fun ρ B => (f ρ B).bind fun x B => (g ρ B).bind fun y B => oR (op x y) B
def eAnd (f g : EF) : EF := fun ρ B => (f ρ B).bind fun x B => match x with
  | .bool true => g ρ B
  | .bool false => .ok (.bool false) B
  | _ => .bad
def eOr (f g : EF) : EF := fun ρ B => (f ρ B).bind fun x B => match x with
  | .bool true => .ok (.bool true) B
  | .bool false => g ρ B
  | _ => .bad
def eNot (f : EF) : EF := fun ρ B => (f ρ B).bind fun x B => match x with
  | .bool b => .ok (.bool (!b)) B
  | _ => .bad
def eIf (t f g : EF) : EF := fun ρ B => (t ρ B).bind fun x B => match x with
  | .bool true => f ρ B
  | .bool false => g ρ B
  | _ => .bad
/-- a op b op' c -/
def eChn (op op' : PyData → PyData → Option PyData) (f g h : EF) : EF := fun ρ B => (f ρ B).bind fun x B => (g ρ B).bind fun y B => match op x y with
  | some (.bool true) => (h ρ B).bind fun z B => oR (op' y z) B
  | some (.bool false) => .ok (.bool false) B
  | _ => .bad
def eCall (s : FSem) (l : LF) : EF := fun ρ B => (l ρ B).bind fun ds B => s ds B
/-- a call with keywords: p puts the values, in the order of the text, in the parameters' order -/
def eCallK (s : FSem) (p : List PyData → List PyData) (l : LF) : EF := fun ρ B => (l ρ B).bind fun ds B => s (p ds) B
def eBag (k : Nat) : EF := fun ρ B => match k with
  | 0 => .ok (.int B.x) B
  | 1 => .ok (.int B.y) B
  | _ => .ok (.int B.z) B
/-! ### targets, comprehensions -/
def bindAll : List Nat → List PyData → Env → Option Env
  | [], [], ρ => some ρ
  | i :: is, d :: ds, ρ => bindAll is ds (ρ.set i (.fz d))
  | _, _, _ => none
/-- a target: one name, or a tuple of names -/
inductive Tg where
  | one (i : Nat)
  | many (is : List Nat)
def Tg.bnd (t : Tg) (d : PyData) (ρ : Env) : Option Env := match t with
  | .one i => some (ρ.set i (.fz d))
  | .many is => match d with
    | .tuple l => bindAll is l ρ
    | _ => none
def wipeE (ρ : Env) : List Nat → Env
  | [] => ρ
  | i :: is => (wipeE ρ is).set i .no
def compF (f : PyData → Bag → R (List PyData)) : List PyData → Bag → R (List PyData)
  | [], B => .ok [] B
  | x :: xs, B => (f x B).bind fun ys B => (compF f xs B).bind fun zs B => .ok (ys ++ zs) B
/-- one clause's turn: the target is bound, the test, the element -/
def turn1 (own : List Nat) (t : Tg) (c : EF) (e : EF) (ρ : Env) : PyData → Bag → R (List PyData) := fun x B => match t.bnd x (wipeE ρ own) with
  | none => .bad
  | some ρ' => (c ρ' B).bind fun k B => match k with
    | .bool true => (e ρ' B).bind fun d B => .ok [d] B
    | .bool false => .ok [] B
    | _ => .bad
def eComp (own : List Nat) (t : Tg) (src : LF) (c : EF) (e : EF) : EF := fun ρ B => (src ρ B).bind fun xs B => (compF (turn1 own t c e ρ) xs B).bind fun ys B => .ok (.list ys) B
/-! ### what is walked -/
def iSeq (f : EF) : LF := fun ρ B => (f ρ B).bind fun d B => match seqOf d with
  | some xs => .ok xs B
  | none => .bad
def rngI (lo hi : Int) : List PyData := (List.range (hi - lo).toNat).map fun (k : Nat) => PyData.int (lo + (k : Int))
def smallI (i : Int) : Bool := decide (-1048576 ≤ i ∧ i ≤ 1048576)
def iRng1 (f : EF) : LF := fun ρ B => (f ρ B).bind fun d B => match d with
  | .int j => if smallI j then .ok (rngI 0 j) B else .bad
  | _ => .bad
def iRng2 (f g : EF) : LF := fun ρ B => (f ρ B).bind fun d B => (g ρ B).bind fun e B => match d, e with
  | .int i, .int j => if smallI i && smallI j then .ok (rngI i j) B else .bad
  | _, _ => .bad
def zipD : List PyData → List PyData → List PyData
  | x :: xs, y :: ys => .tuple [x, y] :: zipD xs ys
  | _, _ => []
def iZip (f g : EF) : LF := fun ρ B => (f ρ B).bind fun d B => (g ρ B).bind fun e B => match seqOf d, seqOf e with
  | some xs, some ys => .ok (zipD xs ys) B
  | _, _ => .bad
def enumD : Int → List PyData → List PyData
  | _, [] => []
  | k, x :: xs => .tuple [.int k, x] :: enumD (k + 1) xs
def iEnum (f : EF) : LF := fun ρ B => (f ρ B).bind fun d B => match seqOf d with
  | some xs => .ok (enumD 0 xs) B
  | none => .bad
/-! ### statements -/
def sNil : SF := fun ρ B => .nx ρ B
def sSeq (s t : SF) : SF := fun ρ B => match s ρ B with
  | .nx ρ B => t ρ B
  | r => r
def toS (r : R PyData) (k : PyData → Bag → SO) : SO := match r with
  | .ok d B => k d B
  | .err c d B => .err c d B
  | .bad => .bad
def sAsg (t : Tg) (f : EF) : SF := fun ρ B => toS (f ρ B) fun d B => match t.bnd d ρ with
  | some ρ' => .nx ρ' B
  | none => .bad
/-- a fresh list to an owned slot -/
def sAsgO (i : Nat) (f : EF) : SF := fun ρ B => toS (f ρ B) fun d B => match d with
  | .list l => .nx (ρ.set i (.ow l)) B
  | _ => .bad
/-- i = j, j's list handed over -/
def sMov (i j : Nat) : SF := fun ρ B => match ρ[j]? with
  | some (.ow l) => .nx ((ρ.set j .no).set i (.fz (.list l))) B
  | _ => .bad
def sExp (f : EF) : SF := fun ρ B => toS (f ρ B) fun _ B => .nx ρ B
def sRet (f : EF) : SF := fun ρ B => toS (f ρ B) fun d B => .ret d B
def sRetO (i : Nat) : SF := fun ρ B => match ρ[i]? with
  | some (.ow l) => .ret (.list l) B
  | _ => .bad
def sRetD (i : Nat) : SF := fun ρ B => match ρ[i]? with
  | some (.od l) => .ret (encD l) B
  | _ => .bad
def sRetN : SF := fun _ B => .ret .none B
def sFail : SF := fun _ _ => .bad
def sIf (t : EF) (a b : SF) : SF := fun ρ B => toS (t ρ B) fun k B => match k with
  | .bool true => a ρ B
  | .bool false => b ρ B
  | _ => .bad
def forF (t : Tg) (body : SF) : List PyData → SF
  | [], ρ, B => .nx ρ B
  | x :: xs, ρ, B => match t.bnd x ρ with
    | none => .bad
    | some ρ' => match body ρ' B with
      | .nx ρ'' B'' => forF t body xs ρ'' B''
      | r => r
def sFor (t : Tg) (src : LF) (body : SF) : SF := fun ρ B => match src ρ B with
  | .ok xs B => forF t body xs ρ B
  | .err c d B => .err c d B
  | .bad => .bad
def whlF (t : EF) (body : SF) : Nat → SF
  | 0, _, _ => .bad
  | n + 1, ρ, B => toS (t ρ B) fun k B => match k with
    | .bool true => (match body ρ B with
      | .nx ρ' B' => whlF t body n ρ' B'
      | r => r)
    | .bool false => .nx ρ B
    | _ => .bad
def fuel : Nat := 100000
def sWhl (t : EF) (body : SF) : SF := whlF t body fuel
/-! ### functions -/
def entry (bag : Bool) (n : Nat) (ds : List PyData) : Env := (if bag then [Slot.bg] else []) ++ ds.map Slot.fz ++ List.replicate (n - ((if bag then 1 else 0) + ds.length)) .no
/-- n slots, ar values besides the bag -/
def fn (bag : Bool) (n ar : Nat) (body : SF) : FSem := fun ds B => if ds.length = ar then (match body (entry bag n ds) B with
  | .nx _ B => .ok .none B
  | .ret d B => .ok d B
  | .err c d B => .err c d B
  | .bad => .bad) else .bad
end Tp

set_option Elab.async false
set_option linter.all false
set_option maxRecDepth 100000
set_option maxHeartbeats 4000000
/-! Snd1: what the core's values are in the heap; readings made of the evaluator. -/
namespace Tp
open PySem PySem.Spec L2

/-! ### data in a heap that stands still -/
/-- a tuple's object, no dict about it -/
def TO (o : Obj) : Prop := o.cls = .type "tuple" ∧ o.dict = none
/-- a tuple in the heap that stands still, or a constant of the program -/
def TupF (K : PySem.W.Frag) (F : Hp) (a : Addr) (xs : List V) : Prop := (∃ o, TO o ∧ F a = some (.frz o (.tup xs))) ∨
  ∃ (o : Obj) (its : Array Value) (n : Nat), K.lookup a = some o ∧ TO o ∧ o.data = .seq its n ∧ its.size ≤ sizeLine ∧ Vals xs its.toList
theorem TupF.mono {K : PySem.W.Frag} {F F' : Hp} {a : Addr} {xs : List V} (h : Same F F') : TupF K F a xs → TupF K F' a xs
  | .inl ⟨o, t, e⟩ => .inl ⟨o, t, h _ _ e⟩
  | .inr r => .inr r
theorem TupF.sq {K : PySem.W.Frag} {F : Hp} {a : Addr} {xs : List V} : TupF K F a xs → SqT K F a xs
  | .inl ⟨o, _, e⟩ => .inl (.inr ⟨o, e⟩)
  | .inr ⟨o, its, n, h1, h2, h3, h4, h5⟩ => .inr ⟨o, its, n, h1, h2.1, h3, h4, h5⟩
/-- what a rule promises that makes a tuple -/
def NewT (H : Hp) (xs : List V) (Q : VK) : Prop := ∀ p o, H p = none → TO o → Q (.ref p) (upd H p (.frz o (.tup xs)))
theorem TupF.new {K : PySem.W.Frag} {F : Hp} {a : Addr} {o : Obj} {xs : List V} (h : TO o) : TupF K (upd F a (.frz o (.tup xs))) a xs := .inl ⟨o, h, upd_same⟩
mutual
inductive Rp (K : PySem.W.Frag) (F : Hp) : V → PyData → Prop
  | non : Rp K F .non .none
  | bl (b : Bool) : Rp K F (.bl b) (.bool b)
  | int (i : Int) : Rp K F (.int i) (.int i)
  | str (x : Str) : Rp K F (.str x) (.str x)
  | lst {a : Addr} {xs : List V} {ds : List PyData} : F a = some (.lst xs) → RpL K F xs ds → Rp K F (.ref a) (.list ds)
  | tup {a : Addr} {xs : List V} {ds : List PyData} : TupF K F a xs → RpL K F xs ds → Rp K F (.ref a) (.tuple ds)
  | dct {a : Addr} {kvs : List (List Key × V)} {l : List (List Key × PyData)} : F a = some (.dT kvs) → kvs.map (·.1) = l.map (·.1) → RpL K F (kvs.map (·.2)) (l.map (·.2)) → Rp K F (.ref a) (encD l)
inductive RpL (K : PySem.W.Frag) (F : Hp) : List V → List PyData → Prop
  | nil : RpL K F [] []
  | cons {v : V} {vs : List V} {d : PyData} {ds : List PyData} : Rp K F v d → RpL K F vs ds → RpL K F (v :: vs) (d :: ds)
end
section
variable {K : PySem.W.Frag} {F F' H H' : Hp}
mutual
theorem Rp.mono (h : Same F F') : ∀ {v : V} {d : PyData}, Rp K F v d → Rp K F' v d
  | _, _, .non => .non
  | _, _, .bl b => .bl b
  | _, _, .int i => .int i
  | _, _, .str x => .str x
  | _, _, .lst s r => .lst (h _ _ s) (RpL.mono h r)
  | _, _, .tup s r => .tup (s.mono h) (RpL.mono h r)
  | _, _, .dct s e r => .dct (h _ _ s) e (RpL.mono h r)
theorem RpL.mono (h : Same F F') : ∀ {vs : List V} {ds : List PyData}, RpL K F vs ds → RpL K F' vs ds
  | _, _, .nil => .nil
  | _, _, .cons a b => .cons (Rp.mono h a) (RpL.mono h b)
end
mutual
theorem Rp.dp : ∀ {d : PyData} {v : V}, d.hasDict = false → Rp K F v d → Dp K F v d
  | .none, _, _, h => by cases h; exact .non
  | .bool b, _, _, h => by cases h; exact .bl b
  | .int i, _, _, h => by cases h; exact .int i
  | .str x, _, _, h => by cases h; exact .str x
  | .list ds, _, n, h => by
    cases h with
    | lst s r => exact .lst (SqL.of s) (RpL.dp (by simpa only [PyData.hasDict] using n) r)
  | .tuple ds, _, n, h => by
    cases h with
    | tup s r => exact .tup s.sq (RpL.dp (by simpa only [PyData.hasDict] using n) r)
  | .dict _, _, n, _ => by simp [PyData.hasDict] at n
theorem RpL.dp : ∀ {ds : List PyData} {vs : List V}, PyData.hasDictAll ds = false → RpL K F vs ds → DpAll K F vs ds
  | [], _, _, h => by cases h; exact .nil
  | d :: ds, _, n, h => by
    cases h with
    | cons a b =>
      simp only [PyData.hasDictAll, Bool.or_eq_false_iff] at n
      exact .cons (Rp.dp n.1 a) (RpL.dp n.2 b)
end
theorem RpL.length : ∀ {vs : List V} {ds : List PyData}, RpL K F vs ds → vs.length = ds.length
  | _, _, .nil => rfl
  | _, _, .cons _ t => congrArg Nat.succ (RpL.length t)
theorem RpL.get : ∀ {vs : List V} {ds : List PyData} {i : Nat} {d : PyData}, RpL K F vs ds → ds[i]? = some d → ∃ v, vs[i]? = some v ∧ Rp K F v d
  | _, _, _, _, .nil, h => by simp at h
  | _, _, 0, _, .cons a _, h => by simp at h; subst h; exact ⟨_, rfl, a⟩
  | _, _, i + 1, _, .cons _ t, h => by
    obtain ⟨v, e, r⟩ := RpL.get (i := i) t (by simpa using h)
    exact ⟨v, by simpa using e, r⟩
theorem RpL.getV : ∀ {vs : List V} {ds : List PyData} {i : Nat} {v : V}, RpL K F vs ds → vs[i]? = some v → ∃ d, ds[i]? = some d ∧ Rp K F v d
  | _, _, _, _, .nil, h => by simp at h
  | _, _, 0, _, .cons a _, h => by simp at h; subst h; exact ⟨_, rfl, a⟩
  | _, _, i + 1, _, .cons _ t, h => by
    obtain ⟨v, e, r⟩ := RpL.getV (i := i) t (by simpa using h)
    exact ⟨v, by simpa using e, r⟩
theorem RpL.append : ∀ {vs ws : List V} {ds es : List PyData}, RpL K F vs ds → RpL K F ws es → RpL K F (vs ++ ws) (ds ++ es)
  | _, _, _, _, .nil, b => b
  | _, _, _, _, .cons a t, b => .cons a (RpL.append t b)
theorem RpL.take : ∀ {vs : List V} {ds : List PyData} (n : Nat), RpL K F vs ds → RpL K F (vs.take n) (ds.take n)
  | _, _, 0, _ => .nil
  | _, _, _ + 1, .nil => .nil
  | _, _, n + 1, .cons a t => .cons a (RpL.take n t)
theorem RpL.drop : ∀ {vs : List V} {ds : List PyData} (n : Nat), RpL K F vs ds → RpL K F (vs.drop n) (ds.drop n)
  | _, _, 0, r => r
  | _, _, _ + 1, .nil => .nil
  | _, _, n + 1, .cons _ t => RpL.drop n t
theorem RpL.reverse : ∀ {vs : List V} {ds : List PyData}, RpL K F vs ds → RpL K F vs.reverse ds.reverse
  | _, _, .nil => .nil
  | _, _, .cons a t => by
    rw [List.reverse_cons, List.reverse_cons]
    exact (RpL.reverse t).append (.cons a .nil)
theorem RpL.set : ∀ {vs : List V} {ds : List PyData} (i : Nat) {v : V} {d : PyData}, RpL K F vs ds → Rp K F v d → RpL K F (vs.set i v) (ds.set i d)
  | _, _, _, _, _, .nil, _ => .nil
  | _, _, 0, _, _, .cons _ t, r => .cons r t
  | _, _, i + 1, _, _, .cons a t, r => .cons a (RpL.set i t r)
theorem RpL.eraseIdx : ∀ {vs : List V} {ds : List PyData} (i : Nat), RpL K F vs ds → RpL K F (vs.eraseIdx i) (ds.eraseIdx i)
  | _, _, _, .nil => .nil
  | _, _, 0, .cons _ t => t
  | _, _, i + 1, .cons a t => .cons a (RpL.eraseIdx i t)
end

/-! ### the parts of the heap -/
def bagL (B : Bag) : List V := [.int B.x, .int B.y, .int B.z]
/-- F: what stands still; b: the bag -/
structure Ok (b : Addr) (F H : Hp) (B : Bag) : Prop where
  same : Same F H
  fb : F b = none
  hb : H b = some (.lst (bagL B))
/-- from F, H to F', H': what stands still is more, nothing else changed but the bag -/
structure Ext (b : Addr) (F H F' H' : Hp) : Prop where
  fr : Same F F'
  hp : ∀ a o, a ≠ b → H a = some o → H' a = some o
  nw : ∀ a, a ≠ b → F a = none → H a ≠ none → F' a = none
section
variable {K : PySem.W.Frag} {b : Addr} {F H F' H' F1 H1 : Hp} {B B' : Bag}
theorem Ext.refl : Ext b F H F H := ⟨Same.refl F, fun _ _ _ h => h, fun _ _ h _ => h⟩
theorem Ext.trans (x : Ext b F H F1 H1) (y : Ext b F1 H1 F' H') : Ext b F H F' H' := ⟨x.fr.trans y.fr, fun a o n h => y.hp a o n (x.hp a o n h), fun a n h1 h2 => by
  refine y.nw a n (x.nw a n h1 h2) ?_
  cases q : H a with
  | none => exact absurd q h2
  | some o => rw [x.hp a o n q]; exact Option.some_ne_none o⟩
/-- a new object that stands still -/
theorem Ext.new {a : Addr} {o : HO} (k : Ok b F H B) (n : H a = none) : Ext b F H (upd F a o) (upd H a o) ∧ Ok b (upd F a o) (upd H a o) B := by
  have nF : F a = none := k.same.free n
  have nb : b ≠ a := fun e => by rw [← e, k.hb] at n; cases n
  refine ⟨⟨fun c u e => ?_, fun c u _ e => ?_, fun c _ e h => ?_⟩, ⟨fun c u e => ?_, ?_, ?_⟩⟩
  · rw [upd_ne (ne_of_none e nF)]; exact e
  · rw [upd_ne (ne_of_none e n)]; exact e
  · by_cases q : c = a
    · subst q; exact absurd n h
    · rw [upd_ne q]; exact e
  · by_cases q : c = a
    · subst q; rw [upd_same] at e ⊢; exact e
    · rw [upd_ne q] at e ⊢; exact k.same _ _ e
  · rw [upd_ne nb]; exact k.fb
  · rw [upd_ne nb]; exact k.hb
/-- a new object that may change -/
theorem Ext.newO {a : Addr} {o : HO} (k : Ok b F H B) (n : H a = none) : Ext b F H F (upd H a o) ∧ Ok b F (upd H a o) B := by
  have nb : b ≠ a := fun e => by rw [← e, k.hb] at n; cases n
  refine ⟨⟨Same.refl F, fun c u _ e => ?_, fun c _ e _ => e⟩, ⟨fun c u e => ?_, k.fb, ?_⟩⟩
  · rw [upd_ne (ne_of_none e n)]; exact e
  · rw [upd_ne (ne_of_none (k.same _ _ e) n)]; exact k.same _ _ e
  · rw [upd_ne nb]; exact k.hb
end

/-! ### locals -/
def SlotOk (K : PySem.W.Frag) (b : Addr) (F H : Hp) (x : Option (Option V)) : Slot → Prop
  | .no => True
  | .fz d => ∃ v, x = some (some v) ∧ Rp K F v d
  | .bg => x = some (some (.ref b))
  | .ow l => ∃ p vs, x = some (some (.ref p)) ∧ p ≠ b ∧ F p = none ∧ H p = some (.lst vs) ∧ RpL K F vs l
  | .od l => ∃ (p : Addr) (kvs : List (List Key × V)), x = some (some (.ref p)) ∧ p ≠ b ∧ F p = none ∧ H p = some (.dT kvs) ∧ kvs.map (·.1) = l.map (·.1) ∧ RpL K F (kvs.map (·.2)) (l.map (·.2))
def Slot.own : Slot → Bool
  | .ow _ => true
  | .od _ => true
  | _ => false
structure LR (K : PySem.W.Frag) (b : Addr) (F H : Hp) (ρ : Env) (σ : St) : Prop where
  len : ρ.length = σ.length
  at_ : ∀ (i : Nat) (s : Slot), ρ[i]? = some s → SlotOk K b F H (σ[i]?) s
  ap : ∀ (i j : Nat) (s t : Slot) (p : Addr), i ≠ j → ρ[i]? = some s → ρ[j]? = some t → s.own = true → t.own = true → σ[i]? = some (some (.ref p)) → σ[j]? ≠ some (some (.ref p))
section
variable {K : PySem.W.Frag} {b : Addr} {F H F' H' : Hp} {B B' : Bag} {ρ : Env} {σ : St}
theorem SlotOk.ext {x : Option (Option V)} (e : Ext b F H F' H') : ∀ {s : Slot}, SlotOk K b F H x s → SlotOk K b F' H' x s
  | .no, _ => trivial
  | .fz d, ⟨v, h, r⟩ => ⟨v, h, r.mono e.fr⟩
  | .bg, h => h
  | .ow l, ⟨p, vs, h1, h2, h3, h4, h5⟩ => ⟨p, vs, h1, h2, e.nw p h2 h3 (by rw [h4]; exact Option.some_ne_none _), e.hp p _ h2 h4, h5.mono e.fr⟩
  | .od l, ⟨p, kvs, h1, h2, h3, h4, h5, h6⟩ => ⟨p, kvs, h1, h2, e.nw p h2 h3 (by rw [h4]; exact Option.some_ne_none _), e.hp p _ h2 h4, h5, h6.mono e.fr⟩
theorem LR.ext (l : LR K b F H ρ σ) (e : Ext b F H F' H') : LR K b F' H' ρ σ := ⟨l.len, fun i s h => (l.at_ i s h).ext e, l.ap⟩
/-- a value to a slot -/
theorem LR.set (l : LR K b F H ρ σ) (i : Nat) {v : V} {d : PyData} (r : Rp K F v d) : LR K b F H (ρ.set i (.fz d)) (σ.set i (some v)) := by
  refine ⟨by simp [l.len], fun j s h => ?_, fun j k s t p hjk h1 h2 o1 o2 e1 => ?_⟩
  · by_cases hij : i = j
    · subst hij
      have hl : i < ρ.length := by
        have := (List.getElem?_eq_some_iff.mp h).1
        simpa using this
      rw [List.getElem?_set_self hl] at h
      cases h
      rw [List.getElem?_set_self (by rw [← l.len]; exact hl)]
      exact ⟨v, rfl, r⟩
    · rw [List.getElem?_set_ne hij] at h ⊢
      exact l.at_ j s h
  · have n1 : i ≠ j := fun e => by
      subst e
      have hl : i < ρ.length := by have := (List.getElem?_eq_some_iff.mp h1).1; simpa using this
      rw [List.getElem?_set_self hl] at h1; cases h1; cases o1
    have n2 : i ≠ k := fun e => by
      subst e
      have hl : i < ρ.length := by have := (List.getElem?_eq_some_iff.mp h2).1; simpa using this
      rw [List.getElem?_set_self hl] at h2; cases h2; cases o2
    rw [List.getElem?_set_ne n1] at h1 e1
    rw [List.getElem?_set_ne n2] at h2 ⊢
    exact l.ap j k s t p hjk h1 h2 o1 o2 e1
theorem LR.no (l : LR K b F H ρ σ) (i : Nat) : LR K b F H (ρ.set i .no) (σ.set i none) := by
  refine ⟨by simp [l.len], fun j s h => ?_, fun j k s t p hjk h1 h2 o1 o2 e1 => ?_⟩
  · by_cases hij : i = j
    · subst hij
      have hl : i < ρ.length := by
        have := (List.getElem?_eq_some_iff.mp h).1
        simpa using this
      rw [List.getElem?_set_self hl] at h
      cases h
      trivial
    · rw [List.getElem?_set_ne hij] at h ⊢
      exact l.at_ j s h
  · have n1 : i ≠ j := fun e => by
      subst e
      have hl : i < ρ.length := by have := (List.getElem?_eq_some_iff.mp h1).1; simpa using this
      rw [List.getElem?_set_self hl] at h1; cases h1; cases o1
    have n2 : i ≠ k := fun e => by
      subst e
      have hl : i < ρ.length := by have := (List.getElem?_eq_some_iff.mp h2).1; simpa using this
      rw [List.getElem?_set_self hl] at h2; cases h2; cases o2
    rw [List.getElem?_set_ne n1] at h1 e1
    rw [List.getElem?_set_ne n2] at h2 ⊢
    exact l.ap j k s t p hjk h1 h2 o1 o2 e1
theorem LR.wipe (l : LR K b F H ρ σ) : ∀ is : List Nat, LR K b F H (wipeE ρ is) (L2.wipe σ is)
  | [] => l
  | i :: is => (LR.wipe l is).no i
end

/-! ### readings -/
/-- what a read operand may be: it stands still, or it is a slot's own list or dict -/
def Bw (K : PySem.W.Frag) (b : Addr) (F H : Hp) (v : V) (d : PyData) : Prop :=
  Rp K F v d ∨ (∃ p vs l, v = .ref p ∧ p ≠ b ∧ F p = none ∧ H p = some (.lst vs) ∧ RpL K F vs l ∧ d = .list l) ∨
    ∃ (p : Addr) (kvs : List (List Key × V)) (l : List (List Key × PyData)), v = .ref p ∧ p ≠ b ∧ F p = none ∧ H p = some (.dT kvs) ∧ (kvs.map (·.1) = l.map (·.1) ∧ RpL K F (kvs.map (·.2)) (l.map (·.2))) ∧ d = encD l
section
variable {K : PySem.W.Frag} {b : Addr} {F H F' H' F1 H1 : Hp} {B B' : Bag} {ρ : Env} {σ : St} {v : V} {d : PyData}
theorem Bw.ext (e : Ext b F H F' H') (h : Bw K b F H v d) : Bw K b F' H' v d := by
  rcases h with h | ⟨p, vs, l, h1, h2, h3, h4, h5, h6⟩ | ⟨p, kvs, vs, h1, h2, h3, h4, h5, h6⟩
  · exact .inl (h.mono e.fr)
  · exact .inr (.inl ⟨p, vs, l, h1, h2, e.nw p h2 h3 (by rw [h4]; exact Option.some_ne_none _), e.hp p _ h2 h4, h5.mono e.fr, h6⟩)
  · exact .inr (.inr ⟨p, kvs, vs, h1, h2, e.nw p h2 h3 (by rw [h4]; exact Option.some_ne_none _), e.hp p _ h2 h4, ⟨h5.1, h5.2.mono e.fr⟩, h6⟩)
theorem Bw.list (k : Same F H) {l : List PyData} (h : Bw K b F H v (.list l)) : ∃ a vs, v = .ref a ∧ SqL K H a vs ∧ RpL K F vs l := by
  rcases h with h | ⟨p, vs, l', h1, h2, h3, h4, h5, h6⟩ | ⟨p, kvs, vs, h1, h2, h3, h4, h5, h6⟩
  · cases h with
    | lst s r => exact ⟨_, _, rfl, SqL.of (k _ _ s), r⟩
  · cases h6
    exact ⟨p, vs, h1, SqL.of h4, h5⟩
  · cases h6
theorem Bw.tuple (k : Same F H) {l : List PyData} (h : Bw K b F H v (.tuple l)) : ∃ a vs, v = .ref a ∧ TupF K F a vs ∧ SqT K H a vs ∧ RpL K F vs l := by
  rcases h with h | ⟨p, vs, l', h1, h2, h3, h4, h5, h6⟩ | ⟨p, kvs, vs, h1, h2, h3, h4, h5, h6⟩
  · cases h with
    | tup s r => exact ⟨_, _, rfl, s, (s.mono k).sq, r⟩
  · cases h6
  · cases h6
theorem Bw.dict (k : Same F H) {l : List (PyData × PyData)} (h : Bw K b F H v (.dict l)) : ∃ (a : Addr) (kvs : List (List Key × V)) (m : List (List Key × PyData)), v = .ref a ∧ H a = some (.dT kvs) ∧ kvs.map (·.1) = m.map (·.1) ∧ RpL K F (kvs.map (·.2)) (m.map (·.2)) ∧ .dict l = encD m := by
  rcases h with h | ⟨p, vs, l', h1, h2, h3, h4, h5, h6⟩ | ⟨p, kvs, vs, h1, h2, h3, h4, h5, h6⟩
  · generalize hd : PyData.dict l = d at h
    cases h <;> first | (cases hd; done) | skip
    rename_i s e r
    exact ⟨_, _, _, rfl, k _ _ s, e, r, rfl⟩
  · cases h6
  · exact ⟨p, kvs, vs, h1, h4, h5.1, h5.2, h6⟩
theorem Bw.int {i : Int} (h : Bw K b F H v (.int i)) : v = .int i := by
  rcases h with h | ⟨p, vs, l', h1, h2, h3, h4, h5, h6⟩ | ⟨p, kvs, vs, h1, h2, h3, h4, h5, h6⟩ <;> first | (cases h; rfl) | cases h6
theorem Bw.bl {i : Bool} (h : Bw K b F H v (.bool i)) : v = .bl i := by
  rcases h with h | ⟨p, vs, l', h1, h2, h3, h4, h5, h6⟩ | ⟨p, kvs, vs, h1, h2, h3, h4, h5, h6⟩ <;> first | (cases h; rfl) | cases h6
theorem Bw.str {i : Str} (h : Bw K b F H v (.str i)) : v = .str i := by
  rcases h with h | ⟨p, vs, l', h1, h2, h3, h4, h5, h6⟩ | ⟨p, kvs, vs, h1, h2, h3, h4, h5, h6⟩ <;> first | (cases h; rfl) | cases h6
theorem Bw.non (h : Bw K b F H v .none) : v = .non := by
  rcases h with h | ⟨p, vs, l', h1, h2, h3, h4, h5, h6⟩ | ⟨p, kvs, vs, h1, h2, h3, h4, h5, h6⟩ <;> first | (cases h; rfl) | cases h6
theorem Bw.dp (k : Same F H) (n : d.hasDict = false) (h : Bw K b F H v d) : Dp K H v d := by
  rcases h with h | ⟨p, vs, l, h1, h2, h3, h4, h5, h6⟩ | ⟨p, kvs, vs, h1, h2, h3, h4, h5, h6⟩
  · exact (h.mono k).dp n
  · subst h6 h1
    exact .lst (SqL.of h4) ((h5.mono k).dp (by simpa only [PyData.hasDict] using n))
  · subst h6; simp [PyData.hasDict, encD] at n

abbrev PostE (K : PySem.W.Frag) (b : Addr) (F H : Hp) (r : R PyData) (Q : VK) : Prop := match r with
  | .ok d B' => ∀ v F' H', Ext b F H F' H' → Ok b F' H' B' → Rp K F' v d → Q v H'
  | _ => False
abbrev PostB (K : PySem.W.Frag) (b : Addr) (F H : Hp) (r : R PyData) (Q : VK) : Prop := match r with
  | .ok d B' => ∀ v F' H', Ext b F H F' H' → Ok b F' H' B' → Bw K b F' H' v d → Q v H'
  | _ => False
abbrev PostL (K : PySem.W.Frag) (b : Addr) (F H : Hp) (r : R (List PyData)) (Q : List V → Hp → Prop) : Prop := match r with
  | .ok ds B' => ∀ vs F' H', Ext b F H F' H' → Ok b F' H' B' → RpL K F' vs ds → Q vs H'
  | _ => False
abbrev PostT (K : PySem.W.Frag) (b : Addr) (F H : Hp) (r : R PyData) (Q : Bool → Hp → Prop) : Prop := match r with
  | .ok (.bool k) B' => ∀ F' H', Ext b F H F' H' → Ok b F' H' B' → Q k H'
  | _ => False
def TEv (K : PySem.W.Frag) (f : EF) : TE := fun σ H Q => ∃ b F ρ B, Ok b F H B ∧ LR K b F H ρ σ ∧ PostE K b F H (f ρ B) Q
def TEb (K : PySem.W.Frag) (f : EF) : TE := fun σ H Q => ∃ b F ρ B, Ok b F H B ∧ LR K b F H ρ σ ∧ PostB K b F H (f ρ B) Q
def TLv (K : PySem.W.Frag) (f : LF) : TA := fun σ H Q => ∃ b F ρ B, Ok b F H B ∧ LR K b F H ρ σ ∧ PostL K b F H (f ρ B) Q
def TTv (K : PySem.W.Frag) (f : EF) : TT := fun σ H Q => ∃ b F ρ B, Ok b F H B ∧ LR K b F H ρ σ ∧ PostT K b F H (f ρ B) Q
end
theorem _root_.L2.PE.zimp {X : Cx} {e : Expr} {t t' : TE} (h : PE X e t) (i : ∀ σ H Q, t' σ H Q → t σ H Q) : PE X e t' := ⟨fun pins s σ H Q I q => h.run pins s σ H Q I (i _ _ _ q)⟩
theorem _root_.L2.PT.zimp {X : Cx} {e : Expr} {t t' : TT} (h : PT X e t) (i : ∀ σ H Q, t' σ H Q → t σ H Q) : PT X e t' := ⟨fun pins s σ H Q I q => h.run pins s σ H Q I (i _ _ _ q)⟩
theorem _root_.L2.PA.zimp {X : Cx} {e : List Expr} {t t' : TA} (h : PA X e t) (i : ∀ σ H Q, t' σ H Q → t σ H Q) : PA X e t' := ⟨fun pos pins s σ H Q I q => h.run pos pins s σ H Q I (i _ _ _ q)⟩
theorem _root_.L2.PS.zimp {X : Cx} {e : Stmt} {t t' : TS} (h : PS X e t) (i : ∀ D σ H, t' D σ H → t D σ H) : PS X e t' := ⟨fun pins s σ H Q I q => h.run pins s σ H Q I (i _ _ _ q)⟩
theorem _root_.L2.PSs.zimp {X : Cx} {e : List Stmt} {t t' : TS} (h : PSs X e t) (i : ∀ D σ H, t' D σ H → t D σ H) : PSs X e t' := ⟨fun pins s σ H Q I q => h.run pins s σ H Q I (i _ _ _ q)⟩
theorem _root_.L2.PE.tb {X : Cx} {K : PySem.W.Frag} {e : Expr} {f : EF} (h : PE X e (TEv K f)) : PE X e (TEb K f) := h.zimp fun σ H Q ⟨b, F, ρ, B, k, l, q⟩ => ⟨b, F, ρ, B, k, l, by
  cases hr : f ρ B with
  | ok d B' => rw [hr] at q; exact fun v F' H' x k' r => q v F' H' x k' (.inl r)
  | err c d B' => rw [hr] at q; exact q.elim
  | bad => rw [hr] at q; exact q.elim⟩
section
variable {K : PySem.W.Frag} {b : Addr} {F H F1 H1 : Hp} {α : Type}
theorem PostE.ext {r : R PyData} {Q : VK} (h : PostE K b F H r Q) (x : Ext b F H F1 H1) : PostE K b F1 H1 r Q := by
  cases r with
  | ok d B' => exact fun v F' H' y k r => h v F' H' (x.trans y) k r
  | err c d B' => exact h
  | bad => exact h
theorem PostB.ext {r : R PyData} {Q : VK} (h : PostB K b F H r Q) (x : Ext b F H F1 H1) : PostB K b F1 H1 r Q := by
  cases r with
  | ok d B' => exact fun v F' H' y k r => h v F' H' (x.trans y) k r
  | err c d B' => exact h
  | bad => exact h
theorem PostL.ext {r : R (List PyData)} {Q : List V → Hp → Prop} (h : PostL K b F H r Q) (x : Ext b F H F1 H1) : PostL K b F1 H1 r Q := by
  cases r with
  | ok d B' => exact fun v F' H' y k r => h v F' H' (x.trans y) k r
  | err c d B' => exact h
  | bad => exact h
theorem PostT.ext {r : R PyData} {Q : Bool → Hp → Prop} (h : PostT K b F H r Q) (x : Ext b F H F1 H1) : PostT K b F1 H1 r Q := by
  cases r with
  | ok d B' =>
    cases d with
    | bool k => exact fun F' H' y k => h F' H' (x.trans y) k
    | _ => exact h
  | err c d B' => exact h
  | bad => exact h
end
section
variable {K : PySem.W.Frag} {f : EF} {g : LF} {σ : St} {H : Hp} {b : Addr} {F : Hp} {ρ : Env} {B : Bag}
/-- THE STEP: a part is read, then what is behind it -/
theorem ev_step {P : VK} (k : Ok b F H B) (l : LR K b F H ρ σ) {d : PyData} {B1 : Bag} (e : f ρ B = .ok d B1) (h : ∀ v F1 H1, Ext b F H F1 H1 → Ok b F1 H1 B1 → LR K b F1 H1 ρ σ → Rp K F1 v d → P v H1) : TEv K f σ H P :=
  ⟨b, F, ρ, B, k, l, by rw [e]; exact fun v F1 H1 x k1 r => h v F1 H1 x k1 (l.ext x) r⟩
theorem eb_step {P : VK} (k : Ok b F H B) (l : LR K b F H ρ σ) {d : PyData} {B1 : Bag} (e : f ρ B = .ok d B1) (h : ∀ v F1 H1, Ext b F H F1 H1 → Ok b F1 H1 B1 → LR K b F1 H1 ρ σ → Bw K b F1 H1 v d → P v H1) : TEb K f σ H P :=
  ⟨b, F, ρ, B, k, l, by rw [e]; exact fun v F1 H1 x k1 r => h v F1 H1 x k1 (l.ext x) r⟩
theorem lv_step {P : List V → Hp → Prop} (k : Ok b F H B) (l : LR K b F H ρ σ) {ds : List PyData} {B1 : Bag} (e : g ρ B = .ok ds B1) (h : ∀ vs F1 H1, Ext b F H F1 H1 → Ok b F1 H1 B1 → LR K b F1 H1 ρ σ → RpL K F1 vs ds → P vs H1) : TLv K g σ H P :=
  ⟨b, F, ρ, B, k, l, by rw [e]; exact fun v F1 H1 x k1 r => h v F1 H1 x k1 (l.ext x) r⟩
theorem tv_step {P : Bool → Hp → Prop} (k : Ok b F H B) (l : LR K b F H ρ σ) {d : Bool} {B1 : Bag} (e : f ρ B = .ok (.bool d) B1) (h : ∀ F1 H1, Ext b F H F1 H1 → Ok b F1 H1 B1 → LR K b F1 H1 ρ σ → P d H1) : TTv K f σ H P :=
  ⟨b, F, ρ, B, k, l, by rw [e]; exact fun F1 H1 x k1 => h F1 H1 x k1 (l.ext x)⟩
end
end Tp

set_option Elab.async false
set_option linter.all false
set_option maxRecDepth 100000
set_option maxHeartbeats 4000000
/-! Snd2: expressions. -/
namespace Tp
open PySem PySem.Spec L2
section
variable {X : Cx} {e a c t u : Expr} {es : List Expr} {f g h : EF} {l : LF} {n : Nat} {pos : Pos}
abbrev ZE (X : Cx) (e : Expr) (f : EF) : Prop := PE X e (TEv X.K f)
abbrev ZB (X : Cx) (e : Expr) (f : EF) : Prop := PE X e (TEb X.K f)
abbrev ZT (X : Cx) (e : Expr) (f : EF) : Prop := PT X e (TTv X.K f)
abbrev ZW (X : Cx) (e : Expr) (f : EF) : Prop := PW X e (TTv X.K f)
def LLen (l : LF) (n : Nat) : Prop := ∀ ρ B ds B', l ρ B = .ok ds B' → ds.length = n
structure ZA (X : Cx) (es : List Expr) (l : LF) (n : Nat) : Prop where
  pa : PA X es (TLv X.K l)
  len : LLen l n
theorem R.bind_ok {α β : Type} {r : R α} {k : α → Bag → R β} {z : β} {B : Bag} (e : r.bind k = .ok z B) : ∃ a B1, r = .ok a B1 ∧ k a B1 = .ok z B := by
  cases r with
  | ok a B1 => exact ⟨a, B1, rfl, e⟩
  | err _ _ _ => cases e
  | bad => cases e
theorem oR_ok {o : Option PyData} {B B' : Bag} {d : PyData} (e : oR o B = .ok d B') : o = some d ∧ B' = B := by
  cases o with
  | none => cases e
  | some x => cases e; exact ⟨rfl, rfl⟩
/-! posts that stand need an answer -/
theorem PostE.ok {K : PySem.W.Frag} {b : Addr} {F H : Hp} {r : R PyData} {Q : VK} (p : PostE K b F H r Q) : ∃ d B', r = .ok d B' ∧ ∀ v F' H', Ext b F H F' H' → Ok b F' H' B' → Rp K F' v d → Q v H' := by
  cases r with
  | ok d B' => exact ⟨d, B', rfl, p⟩
  | err _ _ _ => exact p.elim
  | bad => exact p.elim
theorem PostB.ok {K : PySem.W.Frag} {b : Addr} {F H : Hp} {r : R PyData} {Q : VK} (p : PostB K b F H r Q) : ∃ d B', r = .ok d B' ∧ ∀ v F' H', Ext b F H F' H' → Ok b F' H' B' → Bw K b F' H' v d → Q v H' := by
  cases r with
  | ok d B' => exact ⟨d, B', rfl, p⟩
  | err _ _ _ => exact p.elim
  | bad => exact p.elim
theorem PostL.ok {K : PySem.W.Frag} {b : Addr} {F H : Hp} {r : R (List PyData)} {Q : List V → Hp → Prop} (p : PostL K b F H r Q) : ∃ d B', r = .ok d B' ∧ ∀ v F' H', Ext b F H F' H' → Ok b F' H' B' → RpL K F' v d → Q v H' := by
  cases r with
  | ok d B' => exact ⟨d, B', rfl, p⟩
  | err _ _ _ => exact p.elim
  | bad => exact p.elim
theorem PostT.ok {K : PySem.W.Frag} {b : Addr} {F H : Hp} {r : R PyData} {Q : Bool → Hp → Prop} (p : PostT K b F H r Q) : ∃ k B', r = .ok (.bool k) B' ∧ ∀ F' H', Ext b F H F' H' → Ok b F' H' B' → Q k H' := by
  cases r with
  | ok d B' =>
    cases d with
    | bool k => exact ⟨k, B', rfl, p⟩
    | _ => exact p.elim
  | err _ _ _ => exact p.elim
  | bad => exact p.elim
/-! ### names, constants -/
theorem z_var {i : Nat} {x : Str} (hN : X.N[i]? = some x := by rfl) (hv : Vis X.env.scope x := by first | exact Or.inl rfl | exact Or.inr (Or.inl rfl) | exact Or.inr (Or.inr rfl)) (hd : (x == ("__debug__" : Str)) = false := by decide) (hcd : (x == ("__classdict__" : Str)) = false := by decide) :
    ZE X (.Name x pos) (eVar i) := (pe_var hN hv hd hcd).zimp fun σ H Q ⟨b, F, ρ, B, k, l, q⟩ => by
  obtain ⟨d, B', e, q⟩ := q.ok
  unfold eVar at e
  cases hs : ρ[i]? with
  | none => rw [hs] at e; cases e
  | some s =>
    rw [hs] at e
    have so := l.at_ i s hs
    cases s with
    | fz d' =>
      cases e
      obtain ⟨v, e1, r⟩ := so
      exact ⟨v, e1, q v F H .refl k r⟩
    | _ => cases e
theorem z_own {i : Nat} {x : Str} (hN : X.N[i]? = some x := by rfl) (hv : Vis X.env.scope x := by first | exact Or.inl rfl | exact Or.inr (Or.inl rfl) | exact Or.inr (Or.inr rfl)) (hd : (x == ("__debug__" : Str)) = false := by decide) (hcd : (x == ("__classdict__" : Str)) = false := by decide) :
    ZB X (.Name x pos) (eOwn i) := (pe_var hN hv hd hcd).zimp fun σ H Q ⟨b, F, ρ, B, k, l, q⟩ => by
  obtain ⟨d, B', e, q⟩ := q.ok
  unfold eOwn at e
  cases hs : ρ[i]? with
  | none => rw [hs] at e; cases e
  | some s =>
    rw [hs] at e
    have so := l.at_ i s hs
    cases s with
    | ow d' =>
      cases e
      obtain ⟨p, vs, h1, h2, h3, h4, h5⟩ := so
      exact ⟨_, h1, q _ F H .refl k (.inr (.inl ⟨p, vs, _, rfl, h2, h3, h4, h5, rfl⟩))⟩
    | _ => cases e
theorem z_owd {i : Nat} {x : Str} (hN : X.N[i]? = some x := by rfl) (hv : Vis X.env.scope x := by first | exact Or.inl rfl | exact Or.inr (Or.inl rfl) | exact Or.inr (Or.inr rfl)) (hd : (x == ("__debug__" : Str)) = false := by decide) (hcd : (x == ("__classdict__" : Str)) = false := by decide) :
    ZB X (.Name x pos) (eOwd i) := (pe_var hN hv hd hcd).zimp fun σ H Q ⟨b, F, ρ, B, k, l, q⟩ => by
  obtain ⟨d, B', e, q⟩ := q.ok
  unfold eOwd at e
  cases hs : ρ[i]? with
  | none => rw [hs] at e; cases e
  | some s =>
    rw [hs] at e
    have so := l.at_ i s hs
    cases s with
    | od d' =>
      cases e
      obtain ⟨p, kvs, h1, h2, h3, h4, h5, h6⟩ := so
      exact ⟨_, h1, q _ F H .refl k (.inr (.inr ⟨p, kvs, _, rfl, h2, h3, h4, ⟨h5, h6⟩, rfl⟩))⟩
    | _ => cases e
theorem z_con {d : PyData} {v : V} (hp : PE X e (tC v)) (r : ∀ F, Rp X.K F v d) : ZE X e (eC d) := hp.zimp fun σ H Q ⟨b, F, ρ, B, k, l, q⟩ => q v F H .refl k (r F)
theorem z_int {i : Int} {j : Nat} : ZE X (.Constant (.int i) j pos) (eC (.int i)) := z_con pe_int fun _ => .int i
theorem z_bl {i : Bool} {j : Nat} : ZE X (.Constant (.bool i) j pos) (eC (.bool i)) := z_con pe_bl fun _ => .bl i
theorem z_str {i : Str} {j : Nat} : ZE X (.Constant (.str i) j pos) (eC (.str i)) := z_con pe_str fun _ => .str i
theorem z_non {j : Nat} : ZE X (.Constant .none j pos) (eC .none) := z_con pe_non fun _ => .non
/-- a module's whole number -/
theorem z_gint {x : Str} {i : Int} {tk : Tok} (hg : Gl X x) (hm : X.mg x = some (.int i tk)) (hd : (x == ("__debug__" : Str)) = false := by decide) : ZE X (.Name x pos) (eC (.int i)) := z_con (v := .int i) (pe_glob hg hm ⟨tk, rfl⟩ hd) fun _ => .int i
theorem z_gstr {x i : Str} {tk : Tok} (hg : Gl X x) (hm : X.mg x = some (.str i tk)) (hd : (x == ("__debug__" : Str)) = false := by decide) : ZE X (.Name x pos) (eC (.str i)) := z_con (v := .str i) (pe_glob hg hm ⟨tk, rfl⟩ hd) fun _ => .str i
/-! ### lists of expressions, displays -/
theorem z_nil : ZA X [] lNil 0 := ⟨pa_nil.zimp fun σ H Q ⟨b, F, ρ, B, k, l, q⟩ => q [] F H .refl k .nil, fun ρ B ds B' e => by cases e; rfl⟩
theorem z_cons (ha : ZE X e f) (hl : ZA X es l n) (hs : starEach (e :: es) X.env = (false, eval e X.env) :: starEach es X.env := by rfl) : ZA X (e :: es) (lCons f l) (n + 1) := by
  refine ⟨(pa_cons ha hl.pa hs).zimp fun σ H Q ⟨b, F, ρ, B, k, lr, q⟩ => ?_, fun ρ B ds B' e => ?_⟩
  · obtain ⟨ds, B', e, q⟩ := q.ok
    obtain ⟨d, B1, e1, e⟩ := R.bind_ok e
    obtain ⟨dr, B2, e2, e⟩ := R.bind_ok e
    cases e
    refine ev_step k lr e1 fun v F1 H1 x1 k1 l1 r1 => lv_step k1 l1 e2 fun vs F2 H2 x2 k2 l2 r2 => ?_
    exact q _ F2 H2 (x1.trans x2) k2 (.cons (r1.mono x2.fr) r2)
  · obtain ⟨d, B1, e1, e⟩ := R.bind_ok e
    obtain ⟨dr, B2, e2, e⟩ := R.bind_ok e
    cases e
    rw [List.length_cons, hl.len _ _ _ _ e2]
theorem small_n (h : n ≤ 1000) : n ≤ sizeLine := Nat.le_of_lt (small1000 h)
/-- a tuple laid down anew -/
theorem laidT {X : Cx} {pins : List (Addr × Obj)} {σ : L2.St} {H : Hp} {s : Shared} {us : List Value} {xs : List V} {Q : VK} (I : Inv X pins σ H s) (r : Vals xs us) (z : xs.length ≤ sizeLine) (q : NewT H xs Q) :
    EP X pins σ Q (.ref s.heap.objs.size) { s with heap := s.heap.push { cls := .type "tuple", data := .seq us.toArray } } := by
  refine ⟨.ref s.heap.objs.size, _, I.laid (t' := s.toks) (o := .frz { cls := .type "tuple", data := .seq us.toArray } (.tup xs)) (fun b u e => Heap.get?_push_of_some _ e) (Nat.le_refl _) ?_, rfl, q _ _ (I.hok.fresh (Nat.le_refl _)) ⟨rfl, rfl⟩⟩
  exact ⟨Heap.get?_push_size _ rfl, z, us, r, ⟨_, Heap.get?_push_size _ rfl, rfl, _, rfl⟩⟩
def tTupF (t : L2.TA) : TE := fun σ H Q => t σ H fun xs H1 => xs.length ≤ sizeLine ∧ NewT H1 xs Q
theorem pe_tupF {t : L2.TA} {x1} (h : PA X es t) : PE X (.Tuple es x1 pos) (tTupF t) := by
  refine ⟨fun pins s σ H Q I hq => ?_⟩
  exact wpAny_Tuple_spliced (thn (h.run pos pins s σ H _ I hq) fun us s1 ⟨xs, H1, I1, r, z, q⟩ => ⟨by rw [← r.length]; exact z, laidT I1 r z q⟩)
theorem NewT.of {b : Addr} {F H : Hp} {B : Bag} {xs : List V} {ds : List PyData} {Q : VK} {K : PySem.W.Frag} (k : Ok b F H B) (r : RpL K F xs ds) (q : ∀ v F' H', Ext b F H F' H' → Ok b F' H' B → Rp K F' v (.tuple ds) → Q v H') : NewT H xs Q := fun p o np t => by
  obtain ⟨x2, k2⟩ := Ext.new (o := .frz o (.tup xs)) k np
  exact q _ _ _ x2 k2 (.tup (.new t) (r.mono x2.fr))
theorem z_tup {k : Nat} (hl : ZA X es l n) (hn : n ≤ 1000 := by decide) : ZE X (.Tuple es k pos) (eTup l) := (pe_tupF hl.pa).zimp fun σ H Q ⟨b, F, ρ, B, k, lr, q⟩ => by
  obtain ⟨d, B', e, q⟩ := q.ok
  obtain ⟨ds, B1, e1, e⟩ := R.bind_ok e
  cases e
  refine lv_step k lr e1 fun vs F1 H1 x1 k1 l1 r1 => ⟨by rw [r1.length, hl.len _ _ _ _ e1]; exact small_n hn, .of k1 r1 fun v F' H' x2 k2 r2 => q v F' H' (x1.trans x2) k2 r2⟩
theorem z_lst (hl : ZA X es l n) (hn : n ≤ 1000 := by decide) : ZE X (.List es pos) (eLst l) := (pe_lst hl.pa).zimp fun σ H Q ⟨b, F, ρ, B, k, lr, q⟩ => by
  obtain ⟨d, B', e, q⟩ := q.ok
  obtain ⟨ds, B1, e1, e⟩ := R.bind_ok e
  cases e
  refine lv_step k lr e1 fun vs F1 H1 x1 k1 l1 r1 => ⟨by rw [r1.length, hl.len _ _ _ _ e1]; exact small_n hn, fun p np => ?_⟩
  obtain ⟨x2, k2⟩ := Ext.new (o := .lst vs) k1 np
  exact q _ _ _ (x1.trans x2) k2 (.lst upd_same (r1.mono x2.fr))
/-! ### operators -/
/-- the rule r of an operator answers as op says -/
def Adq (K : PySem.W.Frag) (r : R2) (op : PyData → PyData → Option PyData) : Prop := ∀ (b : Addr) (F H : Hp) (B : Bag) (v w : V) (x y d : PyData) (Q : VK), Ok b F H B → Bw K b F H v x → Bw K b F H w y → op x y = some d →
  (∀ u F' H', Ext b F H F' H' → Ok b F' H' B → Rp K F' u d → Q u H') → r v w H Q
theorem tv_imp {r : R2} {op : PyData → PyData → Option PyData} (ad : Adq X.K r op) {σ : L2.St} {H : Hp} {Q : VK} (h : TEv X.K (e2 op f g) σ H Q) : tOp r (TEb X.K f) (TEb X.K g) σ H Q := by
  obtain ⟨b, F, ρ, B, k, lr, q⟩ := h
  obtain ⟨d, B', e, q⟩ := q.ok
  obtain ⟨x, B1, e1, e⟩ := R.bind_ok e
  obtain ⟨y, B2, e2, e⟩ := R.bind_ok e
  obtain ⟨e3, rfl⟩ := oR_ok e
  refine eb_step k lr e1 fun v F1 H1 x1 k1 l1 r1 => eb_step k1 l1 e2 fun w F2 H2 x2 k2 l2 r2 => ?_
  exact ad b F2 H2 _ v w x y d Q k2 (r1.ext x2) r2 e3 fun u F' H' x3 k3 r3 => q u F' H' ((x1.trans x2).trans x3) k3 r3
theorem z_bin {o : Operator} {r : R2} {op : PyData → PyData → Option PyData} (ho : OpR X (binaryOp o) r) (ad : Adq X.K r op) (ha : ZB X a f) (hc : ZB X c g) : ZE X (.BinOp a o c pos) (e2 op f g) := (pe_op ho ha hc).zimp fun _ _ _ q => tv_imp ad q
theorem z_cmp {o : CmpOp} {r : R2} {op : PyData → PyData → Option PyData} (ho : OpR X (compareOp o) r) (ad : Adq X.K r op) (ha : ZB X a f) (hc : ZB X c g) (hm : behindInMarks o c = false) : ZE X (.Compare a [o] [c] pos) (e2 op f g) := (pe_cmpR ho ha hc hm).zimp fun _ _ _ q => tv_imp ad q
/-- a value's reading as a test's -/
theorem t_of {σ : L2.St} {H : Hp} {Q : Bool → Hp → Prop} (h : TTv X.K f σ H Q) : TEv X.K f σ H fun x H' => ∃ k, x = .bl k ∧ Q k H' := by
  obtain ⟨b, F, ρ, B, k, lr, q⟩ := h
  obtain ⟨d, B', e, q⟩ := q.ok
  exact ev_step k lr e fun v F1 H1 x1 k1 l1 r1 => by
    cases r1
    exact ⟨_, rfl, q F1 H1 x1 k1⟩
theorem z_tcmp {o : CmpOp} {r : R2} {op : PyData → PyData → Option PyData} (ho : OpR X (compareOp o) r) (ad : Adq X.K r op) (ha : ZB X a f) (hc : ZB X c g) (hm : behindInMarks o c = false) : ZT X (.Compare a [o] [c] pos) (e2 op f g) :=
  (pt_cmpR ho ha hc hm).zimp fun _ _ _ q => tv_imp ad (t_of q)
/-- a value as a test -/
theorem z_val (hv : ZE X e f) (he : ∀ whole, isTrue e X.env whole = (do let v ← whole; standAt e.pos; holding [v] (truthy v)) := by intro _; rfl) : ZT X e f := (pt_val hv he).zimp fun _ _ _ q => t_of q
/-! ### and, or, not, if -/
theorem z_tnot (ha : ZT X a f) : ZT X (.UnaryOp .Not a pos) (eNot f) := (pt_not ha).zimp fun σ H Q ⟨b, F, ρ, B, k, lr, q⟩ => by
  obtain ⟨d, B', e, q⟩ := q.ok
  obtain ⟨x, B1, e1, e⟩ := R.bind_ok e
  cases x with
  | bool z =>
    cases e
    exact tv_step k lr e1 fun F1 H1 x1 k1 l1 => q F1 H1 x1 k1
  | _ => cases e
theorem z_not (ha : ZE X a f) : ZE X (.UnaryOp .Not a pos) (eNot f) := (pe_not ha).zimp fun σ H Q ⟨b, F, ρ, B, k, lr, q⟩ => by
  obtain ⟨d, B', e, q⟩ := q.ok
  obtain ⟨x, B1, e1, e⟩ := R.bind_ok e
  cases x with
  | bool z =>
    cases e
    refine ev_step k lr e1 fun v F1 H1 x1 k1 l1 r1 => ?_
    cases r1
    exact ⟨_, rfl, q _ F1 H1 x1 k1 (.bl _)⟩
  | _ => cases e
variable {rest : List Expr}
theorem z_wand1 (ha : ZT X a f) : ZW X (.BoolOp .And [a] pos) f := pw_and1 ha
theorem z_wor1 (ha : ZT X a f) : ZW X (.BoolOp .Or [a] pos) f := pw_or1 ha
theorem _root_.L2.PW.zimp {X : Cx} {e : Expr} {t t' : TT} (h : PW X e t) (i : ∀ σ H Q, t' σ H Q → t σ H Q) : PW X e t' := ⟨fun w pins s σ H Q I q => h.run w pins s σ H Q I (i _ _ _ q)⟩
theorem z_wand (ha : ZT X a f) (hb : ZW X (.BoolOp .And (c :: rest) pos) g) : ZW X (.BoolOp .And (a :: c :: rest) pos) (eAnd f g) := (pw_and ha hb).zimp fun σ H Q ⟨b, F, ρ, B, k, lr, q⟩ => by
  obtain ⟨d, B', e, q⟩ := q.ok
  obtain ⟨x, B1, e1, e⟩ := R.bind_ok e
  cases x with
  | bool z =>
    refine tv_step k lr e1 fun F1 H1 x1 k1 l1 => ?_
    cases z with
    | true => exact iteT (tv_step k1 l1 e fun F2 H2 x2 k2 l2 => q F2 H2 (x1.trans x2) k2)
    | false => cases e; exact iteF (q F1 H1 x1 k1)
  | _ => cases e
theorem z_wor (ha : ZT X a f) (hb : ZW X (.BoolOp .Or (c :: rest) pos) g) : ZW X (.BoolOp .Or (a :: c :: rest) pos) (eOr f g) := (pw_or ha hb).zimp fun σ H Q ⟨b, F, ρ, B, k, lr, q⟩ => by
  obtain ⟨d, B', e, q⟩ := q.ok
  obtain ⟨x, B1, e1, e⟩ := R.bind_ok e
  cases x with
  | bool z =>
    refine tv_step k lr e1 fun F1 H1 x1 k1 l1 => ?_
    cases z with
    | false => exact iteF (tv_step k1 l1 e fun F2 H2 x2 k2 l2 => q F2 H2 (x1.trans x2) k2)
    | true => cases e; exact iteT (q F1 H1 x1 k1)
  | _ => cases e
theorem z_one {o : BoolOp} (ha : ZE X a f) : ZE X (.BoolOp o [a] pos) f := pe_one ha
theorem z_and (ha : ZE X a f) (hb : ZE X (.BoolOp .And (c :: rest) pos) g) : ZE X (.BoolOp .And (a :: c :: rest) pos) (eAnd f g) := (pe_and ha hb).zimp fun σ H Q ⟨b, F, ρ, B, k, lr, q⟩ => by
  obtain ⟨d, B', e, q⟩ := q.ok
  obtain ⟨x, B1, e1, e⟩ := R.bind_ok e
  cases x with
  | bool z =>
    refine ev_step k lr e1 fun v F1 H1 x1 k1 l1 r1 => ?_
    cases r1
    refine ⟨z, rfl, ?_⟩
    cases z with
    | true => exact iteT (ev_step k1 l1 e fun w F2 H2 x2 k2 l2 r2 => q w F2 H2 (x1.trans x2) k2 r2)
    | false => cases e; exact iteF (q _ F1 H1 x1 k1 (.bl _))
  | _ => cases e
theorem z_or (ha : ZE X a f) (hb : ZE X (.BoolOp .Or (c :: rest) pos) g) : ZE X (.BoolOp .Or (a :: c :: rest) pos) (eOr f g) := (pe_or ha hb).zimp fun σ H Q ⟨b, F, ρ, B, k, lr, q⟩ => by
  obtain ⟨d, B', e, q⟩ := q.ok
  obtain ⟨x, B1, e1, e⟩ := R.bind_ok e
  cases x with
  | bool z =>
    refine ev_step k lr e1 fun v F1 H1 x1 k1 l1 r1 => ?_
    cases r1
    refine ⟨z, rfl, ?_⟩
    cases z with
    | false => exact iteF (ev_step k1 l1 e fun w F2 H2 x2 k2 l2 r2 => q w F2 H2 (x1.trans x2) k2 r2)
    | true => cases e; exact iteT (q _ F1 H1 x1 k1 (.bl _))
  | _ => cases e
theorem z_if (ht : ZT X t h) (ha : ZE X a f) (hc : ZE X c g) : ZE X (.IfExp t a c pos) (eIf h f g) := (pe_ifExp ht ha hc).zimp fun σ H Q ⟨b, F, ρ, B, k, lr, q⟩ => by
  obtain ⟨d, B', e, q⟩ := q.ok
  obtain ⟨x, B1, e1, e⟩ := R.bind_ok e
  cases x with
  | bool z =>
    refine tv_step k lr e1 fun F1 H1 x1 k1 l1 => ?_
    cases z with
    | true => exact iteT (ev_step k1 l1 e fun w F2 H2 x2 k2 l2 r2 => q w F2 H2 (x1.trans x2) k2 r2)
    | false => exact iteF (ev_step k1 l1 e fun w F2 H2 x2 k2 l2 r2 => q w F2 H2 (x1.trans x2) k2 r2)
  | _ => cases e
/-- a op b op' c -/
theorem chn_imp {r r' : R2} {op op' : PyData → PyData → Option PyData} (ad : Adq X.K r op) (ad' : Adq X.K r' op') {σ : L2.St} {H : Hp} {Q : VK} (hq : TEv X.K (eChn op op' f g h) σ H Q) : tChain r r' (TEb X.K f) (TEb X.K g) (TEb X.K h) σ H Q := by
  obtain ⟨b, F, ρ, B, k, lr, q⟩ := hq
  obtain ⟨d, B', e, q⟩ := q.ok
  obtain ⟨x, B1, e1, e⟩ := R.bind_ok e
  obtain ⟨y, B2, e2, e⟩ := R.bind_ok e
  refine eb_step k lr e1 fun v F1 H1 x1 k1 l1 r1 => eb_step k1 l1 e2 fun w F2 H2 x2 k2 l2 r2 => ?_
  cases ho : op x y with
  | none => rw [ho] at e; cases e
  | some z =>
    rw [ho] at e
    refine ad b F2 H2 _ v w x y z _ k2 (r1.ext x2) r2 ho fun p F3 H3 x3 k3 r3 => ?_
    cases z with
    | bool z =>
      cases r3
      refine ⟨z, rfl, ?_⟩
      cases z with
      | false => cases e; exact iteF (q _ F3 H3 ((x1.trans x2).trans x3) k3 (.bl _))
      | true =>
        obtain ⟨s, B4, e4, e⟩ := R.bind_ok e
        obtain ⟨e5, rfl⟩ := oR_ok e
        refine iteT (eb_step k3 (l2.ext x3) e4 fun m F4 H4 x4 k4 l4 r4 => ?_)
        exact ad' b F4 H4 _ w m y s d Q k4 ((r2.ext x3).ext x4) r4 e5 fun n F5 H5 x5 k5 r5 => q n F5 H5 ((((x1.trans x2).trans x3).trans x4).trans x5) k5 r5
    | _ => cases e
theorem z_chn {o o' : CmpOp} {r r' : R2} {op op' : PyData → PyData → Option PyData} (ho : OpR X (compareOp o) r) (ad : Adq X.K r op) (ho' : OpR X (compareOp o') r') (ad' : Adq X.K r' op') (ha : ZB X a f) (hc : ZB X c g) (hu : ZB X u h)
    (hm : lastMarks [o, o'] [c, u] = false := by with_unfolding_all rfl) : ZE X (.Compare a [o, o'] [c, u] pos) (eChn op op' f g h) := (pe_chain ho ho' ha hc hu hm).zimp fun _ _ _ q => chn_imp ad ad' q
theorem z_tchn {o o' : CmpOp} {r r' : R2} {op op' : PyData → PyData → Option PyData} (ho : OpR X (compareOp o) r) (ad : Adq X.K r op) (ho' : OpR X (compareOp o') r') (ad' : Adq X.K r' op') (ha : ZB X a f) (hc : ZB X c g) (hu : ZB X u h)
    (hm : lastMarks [o, o'] [c, u] = false := by with_unfolding_all rfl) : ZT X (.Compare a [o, o'] [c, u] pos) (eChn op op' f g h) := (pt_chain ho ho' ha hc hu hm).zimp fun _ _ _ q => chn_imp ad ad' (t_of q)
end
end Tp

set_option Elab.async false
set_option linter.all false
/-! Cor2: operators on data. -/
namespace Tp
open PySem
def shp (d : PyData) : Bool := SeqAt.shaped d
def mulOk (i j : Int) : Bool := decide (-(2 ^ 64) < i ∧ i < 2 ^ 64) || decide (-(2 ^ 64) < j ∧ j < 2 ^ 64)
def dAdd : PyData → PyData → Option PyData
  | .int i, .int j => some (.int (i + j))
  | .tuple a, .tuple b => if a.length + b.length ≤ lim then some (.tuple (a ++ b)) else none
  | .list a, .list b => if a.length + b.length ≤ lim then some (.list (a ++ b)) else none
  | _, _ => none
def dSub : PyData → PyData → Option PyData
  | .int i, .int j => some (.int (i - j))
  | _, _ => none
def repD (k : Int) (l : List PyData) : List PyData := (List.replicate k.toNat l).flatten
def dMul : PyData → PyData → Option PyData
  | .int i, .int j => if mulOk i j then some (.int (i * j)) else none
  | .list a, .int k => if decide (-1000000 ≤ k ∧ k ≤ 1000000) && decide (a.length * k.toNat ≤ lim) then some (.list (repD k a)) else none
  | .tuple a, .int k => if !a.isEmpty && decide (2 ≤ k ∧ k ≤ 1000) && decide (a.length ≤ 1000) then some (.tuple (repD k a)) else none
  | _, _ => none
def dDiv : PyData → PyData → Option PyData
  | .int i, .int j => if decide (0 < j ∧ j < 1073741824) then some (.int (i / j)) else if decide (j ≠ 0 ∧ j.natAbs < 1073741824) then some (.int (i.fdiv j)) else none
  | _, _ => none
def dMod : PyData → PyData → Option PyData
  | .int i, .int j => if decide (0 < j) then some (.int (i % j)) else if decide (j ≠ 0) then some (.int (i.fmod j)) else none
  | _, _ => none
def dPow : PyData → PyData → Option PyData
  | .int i, .int j => if decide (0 ≤ j ∧ j ≤ 1000000 ∧ i.natAbs < 2 ^ 64) then some (.int (i ^ j.toNat)) else none
  | _, _ => none
def dNeg : PyData → Option PyData
  | .int i => some (.int (-i))
  | _ => none
/-- equality in Python's sense; whole numbers, truths, texts and None at once -/
def dEqB (x y : PyData) : Option Bool := match x, y with
  | .int i, .int j => some (decide (i = j))
  | .bool i, .bool j => some (decide (i = j))
  | .str i, .str j => some (decide (i = j))
  | x, y => if shp x && shp y then some (PyData.eqv x y) else none
def dEq (x y : PyData) : Option PyData := (dEqB x y).map PyData.bool
def dNe (x y : PyData) : Option PyData := (dEqB x y).map fun b => PyData.bool (!b)
def dLt : PyData → PyData → Option PyData
  | .int i, .int j => some (.bool (decide (i < j)))
  | _, _ => none
def dLe : PyData → PyData → Option PyData
  | .int i, .int j => some (.bool (decide (i ≤ j)))
  | _, _ => none
def dGt : PyData → PyData → Option PyData
  | .int i, .int j => some (.bool (decide (j < i)))
  | _, _ => none
def dGe : PyData → PyData → Option PyData
  | .int i, .int j => some (.bool (decide (j ≤ i)))
  | _, _ => none
def dInB (x y : PyData) : Option Bool := match seqOf y with
  | some l => if shp x && shp (.list l) then some (l.any fun z => PyData.eqv z x) else none
  | none => none
def dIn (x y : PyData) : Option PyData := (dInB x y).map PyData.bool
def dNin (x y : PyData) : Option PyData := (dInB x y).map fun b => PyData.bool (!b)
def isNoneD : PyData → Bool
  | .none => true
  | _ => false
/-- .. is None -/
def dIsN (x y : PyData) : Option PyData := if isNoneD y then some (.bool (isNoneD x)) else none
def dNotN (x y : PyData) : Option PyData := if isNoneD y then some (.bool (!isNoneD x)) else none
/-- a[i] of a list, a tuple -/
def dIx : PyData → PyData → Option PyData
  | .list l, .int i => L2.atI l i
  | .tuple l, .int i => L2.atI l i
  | _, _ => none
def cutD (l : List PyData) (lo hi : Option Int) : List PyData := (l.drop (HT.sIx l.length 0 lo)).take (HT.sIx l.length l.length hi - HT.sIx l.length 0 lo)
def dCut (lo hi : Option Int) : PyData → Option PyData
  | .list l => some (.list (cutD l lo hi))
  | .tuple l => some (.tuple (cutD l lo hi))
  | _ => none
def intOf : PyData → Option Int
  | .int i => some i
  | _ => none
def eCutL (f g : EF) : EF := fun ρ B => (f ρ B).bind fun x B => (g ρ B).bind fun y B => oR ((intOf y).bind fun i => dCut (some i) none x) B
def eCutH (f g : EF) : EF := fun ρ B => (f ρ B).bind fun x B => (g ρ B).bind fun y B => oR ((intOf y).bind fun i => dCut none (some i) x) B
def eCutB (f g h : EF) : EF := fun ρ B => (f ρ B).bind fun x B => (g ρ B).bind fun y B => (h ρ B).bind fun z B => oR ((intOf y).bind fun i => (intOf z).bind fun j => dCut (some i) (some j) x) B
def dRev : PyData → Option PyData
  | .list l => some (.list l.reverse)
  | _ => none
/-! ### built-ins -/
def dLen : PyData → Option PyData
  | .list l => some (.int l.length)
  | .tuple l => some (.int l.length)
  | _ => none
def intsOf : List PyData → Option (List Int)
  | [] => some []
  | .int i :: r => (intsOf r).map (i :: ·)
  | _ :: _ => none
def blsOf : List PyData → Option (List Bool)
  | [] => some []
  | .bool i :: r => (blsOf r).map (i :: ·)
  | _ :: _ => none
def dSum : PyData → Option PyData
  | .list l => (intsOf l).map fun ns => .int ns.sum
  | _ => none
def dAll : PyData → Option PyData
  | .list l => (blsOf l).map fun bs => .bool (bs.all id)
  | _ => none
def dAny : PyData → Option PyData
  | .list l => (blsOf l).map fun bs => .bool (bs.any id)
  | _ => none
def dTuple : PyData → Option PyData
  | .list l => some (.tuple l)
  | .tuple l => some (.tuple l)
  | _ => none
def dList : PyData → Option PyData
  | .list l => some (.list l)
  | .tuple l => some (.list l)
  | _ => none
def dAbs : PyData → Option PyData
  | .int i => some (.int (if i < 0 then -i else i))
  | _ => none
def dInt : PyData → Option PyData
  | .int i => some (.int i)
  | .bool b => some (.int (if b then 1 else 0))
  | _ => none
def dMax2 : PyData → PyData → Option PyData
  | .int i, .int j => some (.int (if j > i then j else i))
  | _, _ => none
def dMin2 : PyData → PyData → Option PyData
  | .int i, .int j => some (.int (if j < i then j else i))
  | _, _ => none
/-- a call whose first value is the bag, in slot i -/
def eCallB (i : Nat) (s : FSem) (l : LF) : EF := fun ρ B => match ρ[i]? with
  | some .bg => eCall s l ρ B
  | _ => .bad
end Tp

set_option Elab.async false
set_option linter.all false
set_option maxRecDepth 100000
set_option maxHeartbeats 4000000
/-! Snd3: operators are adequate. -/
namespace Tp
open PySem PySem.Spec L2
section
variable {K : PySem.W.Frag}
theorem lim_eq : lim = sizeLine := rfl
theorem ad_ii {r : R2} {op : PyData → PyData → Option PyData} {g : Int → Int → PyData} {gv : Int → Int → V} {C : Int → Int → Prop} (hop : ∀ x y d, op x y = some d → ∃ i j, x = .int i ∧ y = .int j ∧ d = g i j ∧ C i j) (hr : ∀ i j H Q, C i j → Q (gv i j) H → r (.int i) (.int j) H Q)
    (hg : ∀ F i j, Rp K F (gv i j) (g i j)) : Adq K r op := fun b F H B v w x y d Q k hx hy e q => by
  obtain ⟨i, j, rfl, rfl, rfl, c⟩ := hop x y d e
  rw [hx.int, hy.int]
  exact hr i j H Q c (q _ F H .refl k (hg F i j))
theorem lift {op : PyData → PyData → Option PyData} {g : Int → Int → PyData} {x y d : PyData} (e : op x y = some d) (h1 : ∀ i j, op (.int i) (.int j) = some (g i j)) (h2 : ∀ x y, (∀ i j, ¬ (x = .int i ∧ y = .int j)) → op x y = none) : ∃ i j, x = .int i ∧ y = .int j ∧ d = g i j ∧ True := by
  by_cases hc : ∃ i j, x = .int i ∧ y = .int j
  · obtain ⟨i, j, rfl, rfl⟩ := hc
    rw [h1] at e
    exact ⟨i, j, rfl, rfl, (Option.some.inj e).symm, trivial⟩
  · rw [h2 x y fun i j ⟨a, b⟩ => hc ⟨i, j, a, b⟩] at e
    cases e
theorem ad_sub : Adq K (rI0 fun i j => .int (i - j)) dSub := ad_ii (g := fun i j => .int (i - j)) (gv := fun i j => .int (i - j)) (C := fun _ _ => True) (fun x y d e => by
  cases x <;> cases y <;> first | (cases e; exact ⟨_, _, rfl, rfl, rfl, trivial⟩) | cases e) (fun i j H Q _ q => ⟨i, j, rfl, rfl, q⟩) fun _ _ _ => .int _
theorem ad_lt : Adq K (rI0 fun i j => .bl (decide (i < j))) dLt := ad_ii (g := fun i j => .bool (decide (i < j))) (gv := fun i j => .bl (decide (i < j))) (C := fun _ _ => True) (fun x y d e => by
  cases x <;> cases y <;> first | (cases e; exact ⟨_, _, rfl, rfl, rfl, trivial⟩) | cases e) (fun i j H Q _ q => ⟨i, j, rfl, rfl, q⟩) fun _ _ _ => .bl _
theorem ad_le : Adq K (rI0 fun i j => .bl (decide (i ≤ j))) dLe := ad_ii (g := fun i j => .bool (decide (i ≤ j))) (gv := fun i j => .bl (decide (i ≤ j))) (C := fun _ _ => True) (fun x y d e => by
  cases x <;> cases y <;> first | (cases e; exact ⟨_, _, rfl, rfl, rfl, trivial⟩) | cases e) (fun i j H Q _ q => ⟨i, j, rfl, rfl, q⟩) fun _ _ _ => .bl _
theorem ad_gt : Adq K (rI0 fun i j => .bl (decide (j < i))) dGt := ad_ii (g := fun i j => .bool (decide (j < i))) (gv := fun i j => .bl (decide (j < i))) (C := fun _ _ => True) (fun x y d e => by
  cases x <;> cases y <;> first | (cases e; exact ⟨_, _, rfl, rfl, rfl, trivial⟩) | cases e) (fun i j H Q _ q => ⟨i, j, rfl, rfl, q⟩) fun _ _ _ => .bl _
theorem ad_ge : Adq K (rI0 fun i j => .bl (decide (j ≤ i))) dGe := ad_ii (g := fun i j => .bool (decide (j ≤ i))) (gv := fun i j => .bl (decide (j ≤ i))) (C := fun _ _ => True) (fun x y d e => by
  cases x <;> cases y <;> first | (cases e; exact ⟨_, _, rfl, rfl, rfl, trivial⟩) | cases e) (fun i j H Q _ q => ⟨i, j, rfl, rfl, q⟩) fun _ _ _ => .bl _
theorem ad_pow : Adq K (rI CPow fun i j => .int (i ^ j.toNat)) dPow := ad_ii (g := fun i j => .int (i ^ j.toNat)) (gv := fun i j => .int (i ^ j.toNat)) (C := CPow) (fun x y d e => by
  cases x <;> cases y <;> first | (cases e; done) | skip
  rename_i i j
  unfold dPow at e
  simp only at e
  split at e
  · rename_i c
    cases e
    exact ⟨i, j, rfl, rfl, rfl, (of_decide_eq_true c : 0 ≤ j ∧ j ≤ 1000000 ∧ i.natAbs < 2 ^ 64)⟩
  · cases e) (fun i j H Q c q => ⟨i, j, rfl, rfl, c, q⟩) fun _ _ _ => .int _
/-- tuple + tuple -/
def rCatF (K : PySem.W.Frag) : R2 := fun x y H Q => ∃ a b xs ys, x = .ref a ∧ y = .ref b ∧ SqT K H a xs ∧ SqT K H b ys ∧ xs.length + ys.length ≤ sizeLine ∧
  (xs = [] → Q (.ref b) H) ∧ (xs ≠ [] → ys = [] → Q (.ref a) H) ∧ (xs ≠ [] → ys ≠ [] → NewT H (xs ++ ys) Q)
theorem op_catF {X : Cx} : OpR X (binaryOp .Add) (rCatF X.K) := by
  intro pins s σ H x y v u Q I rx ry h
  obtain ⟨a, b, xs, ys, rfl, rfl, ha, hb, hz, q0, q1, q2⟩ := h
  by_cases hx : xs = []
  · subst hx
    exact op_catA pins s σ H _ _ v u Q I rx ry ⟨a, b, [], ys, rfl, rfl, ha, hb, hz, q0, fun z => absurd rfl z, fun z => absurd rfl z⟩
  · cases rx
    cases ry
    obtain ⟨its, r1, p1, _⟩ := I.tuple ha
    obtain ⟨its2, r2, p2, _⟩ := I.tuple hb
    exact HT.cat_tup p1 p2 (fun z => hx (r1.nil_iff.mp z)) (fun z => ⟨.ref a, H, I, rfl, q1 hx (r2.nil_iff.mp z)⟩) (fun z => laidT I (r1.append r2) (by rw [List.length_append]; exact hz) (q2 hx fun w => z (r2.nil_iff.mpr w))) (by rw [← r1.length, ← r2.length]; exact hz)
/-- + of whole numbers, tuples, lists -/
def rAddA (K : PySem.W.Frag) : R2 := fun x y H Q => (rI0 fun i j => .int (i + j)) x y H Q ∨ rCatF K x y H Q ∨ rCat x y H Q
theorem op_addA {X : Cx} : OpR X (binaryOp .Add) (rAddA X.K) := op_add.or (op_catF.or op_cat)
theorem Bw.listH {b : Addr} {F H : Hp} {v : V} (k : Same F H) {l : List PyData} (h : Bw K b F H v (.list l)) : ∃ a vs, v = .ref a ∧ H a = some (.lst vs) ∧ RpL K F vs l := by
  rcases h with h | ⟨p, vs, l', h1, h2, h3, h4, h5, h6⟩ | ⟨p, kvs, vs, h1, h2, h3, h4, h5, h6⟩
  · cases h with
    | lst s r => exact ⟨_, _, rfl, k _ _ s, r⟩
  · cases h6
    exact ⟨p, vs, h1, h4, h5⟩
  · cases h6
theorem RpL.nil_iff {F : Hp} {vs : List V} {ds : List PyData} (r : RpL K F vs ds) : vs = [] ↔ ds = [] := by
  constructor <;> (intro e; subst e; cases r; rfl)
theorem ad_add : Adq K (rAddA K) dAdd := fun b F H B v w x y d Q k hx hy e q => by
  cases x <;> cases y <;> first | (cases e; done) | skip
  · rename_i i j
    cases e
    rw [hx.int, hy.int]
    exact .inl ⟨i, j, rfl, rfl, q _ F H .refl k (.int _)⟩
  · rename_i i j
    unfold dAdd at e
    simp only at e
    split at e <;> first | (cases e; done) | skip
    rename_i hl
    cases e
    obtain ⟨a, vs, rfl, h1, r1⟩ := hx.listH k.same
    obtain ⟨c, ws, rfl, h2, r2⟩ := hy.listH k.same
    refine .inr (.inr ⟨a, c, vs, ws, rfl, rfl, h1, h2, by rw [r1.length, r2.length]; exact hl, fun p np => ?_⟩)
    obtain ⟨x2, k2⟩ := Ext.new (o := .lst (vs ++ ws)) k np
    exact q _ _ _ x2 k2 (.lst upd_same ((r1.append r2).mono x2.fr))
  · rename_i i j
    unfold dAdd at e
    simp only at e
    split at e <;> first | (cases e; done) | skip
    rename_i hl
    cases e
    obtain ⟨a, vs, rfl, f1, h1, r1⟩ := hx.tuple k.same
    obtain ⟨c, ws, rfl, f2, h2, r2⟩ := hy.tuple k.same
    refine .inr (.inl ⟨a, c, vs, ws, rfl, rfl, h1, h2, by rw [r1.length, r2.length]; exact hl, fun z => ?_, fun z1 z2 => ?_, fun _ _ => .of k (r1.append r2) q⟩)
    · rw [r1.nil_iff] at z
      subst z
      exact q _ F H .refl k (.tup f2 r2)
    · rw [r2.nil_iff] at z2
      subst z2
      rw [List.append_nil] at q
      exact q _ F H .refl k (.tup f1 r1)
/-- tuple * number -/
def rRepF (K : PySem.W.Frag) : R2 := fun x y H Q => ∃ l k xs, x = .ref l ∧ y = .int k ∧ SqT K H l xs ∧ xs ≠ [] ∧ 2 ≤ k ∧ k ≤ 1000 ∧ xs.length ≤ 1000 ∧ NewT H (List.replicate k.toNat xs).flatten Q
theorem op_repF {X : Cx} : OpR X (binaryOp .Mult) (rRepF X.K) := by
  intro pins s σ H x y v u Q I rx ry h
  obtain ⟨l, k, xs, rfl, rfl, hT, hne, h1, h2, hz, q⟩ := h
  cases rx
  obtain ⟨t, rfl⟩ := ry
  obtain ⟨its, r, ⟨⟨cls, dd, data, sl⟩, ho, hc, n, hd⟩, hs⟩ := I.tuple hT
  simp only at hc hd
  subst hc hd
  have hle : its.length = xs.length := r.length.symm
  have hi : its.toArray.isEmpty = false := by
    cases its with
    | nil => exact absurd (List.eq_nil_of_length_eq_zero hle.symm) hne
    | cons a b => rfl
  have hsz0 : its.toArray.size = xs.length := by rw [List.size_toArray, hle]
  have hm : ((its.toArray.size : Nat) : Int) * k ≤ 1000000 := by
    rw [hsz0]
    exact Int.le_trans (Int.mul_le_mul_of_nonneg_right (by omega : ((xs.length : Nat) : Int) ≤ 1000) (by omega)) (by omega)
  have a1 : k.toNat * xs.length ≤ 1000 * 1000 := Nat.mul_le_mul (by omega) hz
  have flen : ∀ {β : Type} (ys : List β), ys.length = xs.length → (List.replicate k.toNat ys).flatten.length ≤ sizeLine := fun ys hy => by
    rw [PyProof.Rows.lm_len_rep_flat, hy, PySem.sizeLine_eq]
    omega
  have c4 : Builtin.Tuple.tupleTooMany (((its.toArray.size : Nat) : Int) * k) = false := by
    unfold Builtin.Tuple.tupleTooMany
    rw [PySem.sizeLine_eq]
    exact decide_eq_false (by omega)
  refine wpAny_binaryOp_repeat_ref (T := "tuple") (U := "int") (by decide) ⟨_, ho, rfl⟩ (fun s' => typeIs_int s' k t) noFill_tuple_mul F.fills_int_mul F.slot_int_rmul repeat_tuple F.slot_int_index.lookup
    (call_meets F.slot_int_rmul (typeIs_int s k t) F.entry_int_rmul (F.args_int_rmul_2 _ _) (int_rmul_tuple k t l its.toArray n dd sl)
      ⟨ho, rfl, ⟨_, ho, rfl⟩, call_meets F.slot_tuple_mul ⟨_, ho, rfl⟩ F.entry_tuple_mul (F.args_tuple_mul_2 _ _) (tuple_mulW l its.toArray n dd sl k t (by rw [decide_eq_false (by omega), decide_eq_false (by omega)] <;> rfl)
        (by rw [hi, Bool.false_or]; exact beq_eq_false_iff_ne.mpr (by omega)) (by rw [hi, Bool.or_false]; exact decide_eq_false (by omega)) (by omega) c4 (by rw [size_rep, List.size_toArray]; exact flen its hle)) ⟨ho, ?_⟩⟩)
  rw [size_rep]
  exact laidT I (r.rep k.toNat) (flen xs rfl) q
/-- * -/
def rMulA (K : PySem.W.Frag) : R2 := fun x y H Q => (rI CMul fun i j => .int (i * j)) x y H Q ∨ rRep x y H Q ∨ rRepF K x y H Q
theorem op_mulA {X : Cx} : OpR X (binaryOp .Mult) (rMulA X.K) := op_mul.or (op_rep.or op_repF)
theorem RpL.rep {F : Hp} {vs : List V} {ds : List PyData} (r : RpL K F vs ds) : ∀ n : Nat, RpL K F (List.replicate n vs).flatten (List.replicate n ds).flatten
  | 0 => .nil
  | n + 1 => by
    rw [List.replicate_succ, List.replicate_succ, List.flatten_cons, List.flatten_cons]
    exact r.append (RpL.rep r n)
theorem ad_mul : Adq K (rMulA K) dMul := fun b F H B v w x y d Q k hx hy e q => by
  cases x <;> cases y <;> first | (cases e; done) | skip
  · rename_i i j
    unfold dMul at e
    simp only at e
    split at e <;> first | (cases e; done) | skip
    rename_i c
    cases e
    rw [hx.int, hy.int]
    refine .inl ⟨i, j, rfl, rfl, ?_, q _ F H .refl k (.int _)⟩
    unfold mulOk at c
    rw [Bool.or_eq_true, decide_eq_true_eq, decide_eq_true_eq] at c
    exact c
  · rename_i i j
    unfold dMul at e
    simp only at e
    split at e <;> first | (cases e; done) | skip
    rename_i c
    cases e
    rw [Bool.and_eq_true, decide_eq_true_eq, decide_eq_true_eq] at c
    obtain ⟨a, vs, rfl, h1, r1⟩ := hx.listH k.same
    rw [hy.int]
    refine .inr (.inl ⟨a, j, vs, rfl, rfl, h1, by omega, by omega, by rw [r1.length]; exact c.2, fun p np => ?_⟩)
    obtain ⟨x2, k2⟩ := Ext.new (o := .lst (List.replicate j.toNat vs).flatten) k np
    exact q _ _ _ x2 k2 (.lst upd_same ((r1.rep j.toNat).mono x2.fr))
  · rename_i i j
    unfold dMul at e
    simp only at e
    split at e <;> first | (cases e; done) | skip
    rename_i c
    cases e
    rw [Bool.and_eq_true, Bool.and_eq_true, decide_eq_true_eq, decide_eq_true_eq] at c
    obtain ⟨a, vs, rfl, f1, h1, r1⟩ := hx.tuple k.same
    rw [hy.int]
    refine .inr (.inr ⟨a, j, vs, rfl, rfl, h1, fun z => ?_, c.1.2.1, c.1.2.2, by rw [r1.length]; exact c.2, .of k (r1.rep j.toNat) q⟩)
    rw [r1.nil_iff] at z
    subst z
    simp at c
def rDivA : R2 := fun x y H Q => (rI CDiv fun i j => .int (i / j)) x y H Q ∨ (rI CDivN fun i j => .int (i.fdiv j)) x y H Q
theorem op_divA {X : Cx} : OpR X (binaryOp .FloorDiv) rDivA := op_fdiv.or op_fdivN
theorem ad_div : Adq K rDivA dDiv := fun b F H B v w x y d Q k hx hy e q => by
  cases x <;> cases y <;> first | (cases e; done) | skip
  rename_i i j
  unfold dDiv at e
  simp only at e
  rw [hx.int, hy.int]
  split at e
  · rename_i c
    cases e
    exact .inl ⟨i, j, rfl, rfl, (of_decide_eq_true c : 0 < j ∧ j < 1073741824), q _ F H .refl k (.int _)⟩
  · split at e <;> first | (cases e; done) | skip
    rename_i c
    cases e
    exact .inr ⟨i, j, rfl, rfl, (of_decide_eq_true c : j ≠ 0 ∧ j.natAbs < 1073741824), q _ F H .refl k (.int _)⟩
def rModA : R2 := fun x y H Q => (rI (fun _ j => 0 < j) fun i j => .int (i % j)) x y H Q ∨ (rI (fun _ j => j ≠ 0) fun i j => .int (i.fmod j)) x y H Q
theorem op_modA {X : Cx} : OpR X (binaryOp .Mod) rModA := op_mod.or op_modN
theorem ad_mod : Adq K rModA dMod := fun b F H B v w x y d Q k hx hy e q => by
  cases x <;> cases y <;> first | (cases e; done) | skip
  rename_i i j
  unfold dMod at e
  simp only at e
  rw [hx.int, hy.int]
  split at e
  · rename_i c
    cases e
    exact .inl ⟨i, j, rfl, rfl, of_decide_eq_true c, q _ F H .refl k (.int _)⟩
  · split at e <;> first | (cases e; done) | skip
    rename_i c
    cases e
    exact .inr ⟨i, j, rfl, rfl, of_decide_eq_true c, q _ F H .refl k (.int _)⟩
/-! ### ==, in -/
mutual
theorem noDict_of : ∀ d : PyData, d.canLay0 = true → d.hasDict = false
  | .none, _ => rfl
  | .bool _, _ => rfl
  | .int _, _ => rfl
  | .str _, _ => rfl
  | .list xs, h => by simp only [PyData.hasDict]; exact noDictAll_of xs (by simpa only [PyData.canLay0] using h)
  | .tuple xs, h => by simp only [PyData.hasDict]; exact noDictAll_of xs (by simpa only [PyData.canLay0] using h)
  | .dict _, h => by simp [PyData.canLay0] at h
theorem noDictAll_of : ∀ ds : List PyData, PyData.canLayAll0 ds = true → PyData.hasDictAll ds = false
  | [], _ => rfl
  | d :: ds, h => by
    simp only [PyData.canLayAll0, Bool.and_eq_true] at h
    simp only [PyData.hasDictAll, Bool.or_eq_false_iff]
    exact ⟨noDict_of d h.1, noDictAll_of ds h.2⟩
end
theorem noDict_shp {d : PyData} (h : shp d = true) : d.hasDict = false := noDict_of d (SeqAt.canLay_of_shaped h)
def rEqA (K : PySem.W.Frag) : R2 := fun x y H Q => rEq x y H Q ∨ rEqD K x y H Q
def rNeA (K : PySem.W.Frag) : R2 := fun x y H Q => rNe x y H Q ∨ rNeD K x y H Q
theorem op_eqA {X : Cx} (hu : X.A.units + 64 < cLine) : OpR X (compareOp .Eq) (rEqA X.K) := op_eq.or (op_eqD hu)
theorem op_neA {X : Cx} (hu : X.A.units + 64 < cLine) : OpR X (compareOp .NotEq) (rNeA X.K) := op_ne.or (op_neD hu)
theorem eqB_cases {x y : PyData} {z : Bool} (e : dEqB x y = some z) : (∃ i j, x = .int i ∧ y = .int j ∧ z = decide (i = j)) ∨ (∃ i j, x = .bool i ∧ y = .bool j ∧ z = decide (i = j)) ∨ (∃ i j, x = .str i ∧ y = .str j ∧ z = decide (i = j)) ∨
    (shp x = true ∧ shp y = true ∧ z = PyData.eqv x y) := by
  have gen : (if shp x && shp y then some (PyData.eqv x y) else none) = some z → (shp x = true ∧ shp y = true ∧ z = PyData.eqv x y) := fun h => by
    split at h
    · rename_i c
      rw [Bool.and_eq_true] at c
      exact ⟨c.1, c.2, (Option.some.inj h).symm⟩
    · cases h
  unfold dEqB at e
  split at e
  · exact .inl ⟨_, _, rfl, rfl, (Option.some.inj e).symm⟩
  · exact .inr (.inl ⟨_, _, rfl, rfl, (Option.some.inj e).symm⟩)
  · exact .inr (.inr (.inl ⟨_, _, rfl, rfl, (Option.some.inj e).symm⟩))
  · exact .inr (.inr (.inr (gen e)))
theorem map_some_ok {α β : Type} {o : Option α} {f : α → β} {z : β} (e : o.map f = some z) : ∃ a, o = some a ∧ f a = z := by
  cases o with
  | none => cases e
  | some a => exact ⟨a, rfl, Option.some.inj e⟩
theorem dec_VI {i j : Int} : decide (V.int i = V.int j) = decide (i = j) := by simp
theorem dec_VB {i j : Bool} : decide (V.bl i = V.bl j) = decide (i = j) := by simp
theorem dec_VS {i j : Str} : decide (V.str i = V.str j) = decide (i = j) := by simp
theorem ad_eq : Adq K (rEqA K) dEq := fun b F H B v w x y d Q k hx hy e q => by
  obtain ⟨z, e1, rfl⟩ := map_some_ok e
  rcases eqB_cases e1 with ⟨i, j, rfl, rfl, rfl⟩ | ⟨i, j, rfl, rfl, rfl⟩ | ⟨i, j, rfl, rfl, rfl⟩ | ⟨s1, s2, rfl⟩
  · rw [hx.int, hy.int]
    exact .inl ⟨rfl, by rw [dec_VI]; exact q _ F H .refl k (.bl _)⟩
  · rw [hx.bl, hy.bl]
    exact .inl ⟨rfl, by rw [dec_VB]; exact q _ F H .refl k (.bl _)⟩
  · rw [hx.str, hy.str]
    exact .inl ⟨rfl, by rw [dec_VS]; exact q _ F H .refl k (.bl _)⟩
  · exact .inr ⟨x, y, hx.dp k.same (noDict_shp s1), hy.dp k.same (noDict_shp s2), s1, s2, q _ F H .refl k (.bl _)⟩
theorem ad_ne : Adq K (rNeA K) dNe := fun b F H B v w x y d Q k hx hy e q => by
  obtain ⟨z, e1, rfl⟩ := map_some_ok e
  rcases eqB_cases e1 with ⟨i, j, rfl, rfl, rfl⟩ | ⟨i, j, rfl, rfl, rfl⟩ | ⟨i, j, rfl, rfl, rfl⟩ | ⟨s1, s2, rfl⟩
  · rw [hx.int, hy.int]
    exact .inl ⟨rfl, by rw [dec_VI]; exact q _ F H .refl k (.bl _)⟩
  · rw [hx.bl, hy.bl]
    exact .inl ⟨rfl, by rw [dec_VB]; exact q _ F H .refl k (.bl _)⟩
  · rw [hx.str, hy.str]
    exact .inl ⟨rfl, by rw [dec_VS]; exact q _ F H .refl k (.bl _)⟩
  · exact .inr ⟨x, y, hx.dp k.same (noDict_shp s1), hy.dp k.same (noDict_shp s2), s1, s2, q _ F H .refl k (.bl _)⟩
/-- x in a list, a tuple -/
def rInA (K : PySem.W.Frag) (neg : Bool) : R2 := fun x y H Q => ∃ d e ds, Dp K H x d ∧ Dp K H y e ∧ seqOf e = some ds ∧ SeqAt.shaped d = true ∧ SeqAt.shaped (.list ds) = true ∧ Q (.bl (if neg then !(ds.any fun z => PyData.eqv z d) else ds.any fun z => PyData.eqv z d)) H
theorem shp_tup {ds : List PyData} (h : SeqAt.shaped (.list ds) = true) : SeqAt.shaped (.tuple ds) = true := by
  have e : SeqAt.shaped (.tuple ds) = SeqAt.shaped (.list ds) := by
    simp only [SeqAt.shaped, PyData.canLay0, PyData.depth]
    first | rfl | congr
  rw [e]
  exact h
theorem op_inA {X : Cx} (hu : X.A.units + 65 < cLine) : OpR X (compareOp .In) (rInA X.K false) := by
  intro pins s σ H x y v u Q I rx ry h
  obtain ⟨d, e, ds, hd, he, hs, sd, se, q⟩ := h
  obtain ⟨as, r1⟩ := Dp.reads I d x v hd rx
  obtain ⟨bs, r2⟩ := Dp.reads I e y u he ry
  cases e <;> cases hs
  · exact SeqAt.in_list_reads r2 r1 (SeqAt.canLay_of_shaped se) (SeqAt.canLay_of_shaped sd) (PyProof.Rows.room_in_shaped sd hu) ⟨.bl _, H, I, rfl, q⟩
  · exact SeqAt.in_tuple_reads r2 r1 (SeqAt.canLay_of_shaped (shp_tup se)) (SeqAt.canLay_of_shaped sd) (PyProof.Rows.room_in_shaped sd hu) ⟨.bl _, H, I, rfl, q⟩
theorem op_ninA {X : Cx} (hu : X.A.units + 65 < cLine) : OpR X (compareOp .NotIn) (rInA X.K true) := by
  intro pins s σ H x y v u Q I rx ry h
  obtain ⟨d, e, ds, hd, he, hs, sd, se, q⟩ := h
  obtain ⟨as, r1⟩ := Dp.reads I d x v hd rx
  obtain ⟨bs, r2⟩ := Dp.reads I e y u he ry
  cases e <;> cases hs
  · exact SeqAt.notIn_list_reads r2 r1 (SeqAt.canLay_of_shaped se) (SeqAt.canLay_of_shaped sd) (PyProof.Rows.room_in_shaped sd hu) ⟨.bl _, H, I, rfl, q⟩
  · exact SeqAt.notIn_tuple_reads r2 r1 (SeqAt.canLay_of_shaped (shp_tup se)) (SeqAt.canLay_of_shaped sd) (PyProof.Rows.room_in_shaped sd hu) ⟨.bl _, H, I, rfl, q⟩
theorem inB_ok {x y : PyData} {z : Bool} (e : dInB x y = some z) : ∃ l, seqOf y = some l ∧ shp x = true ∧ shp (.list l) = true ∧ z = l.any fun z => PyData.eqv z x := by
  unfold dInB at e
  split at e
  · rename_i l hl
    split at e
    · rename_i c
      rw [Bool.and_eq_true] at c
      exact ⟨l, hl, c.1, c.2, (Option.some.inj e).symm⟩
    · cases e
  · cases e
theorem noDict_seq {y : PyData} {l : List PyData} (h : seqOf y = some l) (s : shp (.list l) = true) : y.hasDict = false := by
  cases y <;> cases h
  · exact noDict_shp s
  · exact noDict_shp (shp_tup s)
theorem ad_in : Adq K (rInA K false) dIn := fun b F H B v w x y d Q k hx hy e q => by
  obtain ⟨z, e1, rfl⟩ := map_some_ok e
  obtain ⟨l, h1, h2, h3, rfl⟩ := inB_ok e1
  exact ⟨x, y, l, hx.dp k.same (noDict_shp h2), hy.dp k.same (noDict_seq h1 h3), h1, h2, h3, q _ F H .refl k (.bl _)⟩
theorem ad_nin : Adq K (rInA K true) dNin := fun b F H B v w x y d Q k hx hy e q => by
  obtain ⟨z, e1, rfl⟩ := map_some_ok e
  obtain ⟨l, h1, h2, h3, rfl⟩ := inB_ok e1
  exact ⟨x, y, l, hx.dp k.same (noDict_shp h2), hy.dp k.same (noDict_seq h1 h3), h1, h2, h3, q _ F H .refl k (.bl _)⟩
theorem non_iff {b : Addr} {F H : Hp} {v : V} {x : PyData} (h : Bw K b F H v x) : decide (v = .non) = isNoneD x := by
  rcases h with h | ⟨p, vs, l', h1, h2, h3, h4, h5, h6⟩ | ⟨p, kvs, vs, h1, h2, h3, h4, h5, h6⟩
  · cases h <;> first | rfl | (simp [isNoneD])
  · subst h1 h6; simp [isNoneD]
  · subst h1 h6; simp [isNoneD, encD]
theorem ad_isN : Adq K (fun x y H Q => y = .non ∧ Q (.bl (decide (x = .non))) H) dIsN := fun b F H B v w x y d Q k hx hy e q => by
  unfold dIsN at e
  split at e <;> first | (cases e; done) | skip
  rename_i c
  cases e
  cases y <;> first | cases c | skip
  exact ⟨hy.non, by rw [non_iff hx]; exact q _ F H .refl k (.bl _)⟩
theorem ad_notN : Adq K (fun x y H Q => y = .non ∧ Q (.bl (!decide (x = .non))) H) dNotN := fun b F H B v w x y d Q k hx hy e q => by
  unfold dNotN at e
  split at e <;> first | (cases e; done) | skip
  rename_i c
  cases e
  cases y <;> first | cases c | skip
  exact ⟨hy.non, by rw [non_iff hx]; exact q _ F H .refl k (.bl _)⟩
end
end Tp

set_option Elab.async false
set_option linter.all false
set_option maxRecDepth 100000
set_option maxHeartbeats 4000000
/-! Snd4: subscripts, slices, built-in calls. -/
namespace Tp
open PySem PySem.Spec L2
section
variable {X : Cx} {K : PySem.W.Frag} {e a c t u : Expr} {es : List Expr} {f g h : EF} {l : LF} {n : Nat} {pos p p2 : Pos}
/-! ### subscripts -/
theorem RpL.atI {F : Hp} {vs : List V} {ds : List PyData} {i : Int} {d : PyData} (r : RpL K F vs ds) (e : L2.atI ds i = some d) : ∃ v, L2.atI vs i = some v ∧ Rp K F v d := by
  unfold L2.atI at e ⊢
  rw [r.length]
  cases q : ixN ds.length i with
  | none => rw [q] at e; cases e
  | some j =>
    rw [q] at e
    exact r.get e
theorem ad_ix : Adq K (rIx K) dIx := fun b F H B v w x y d Q k hx hy e q => by
  cases x <;> cases y <;> first | (cases e; done) | skip
  · rename_i i j
    obtain ⟨p, vs, rfl, h1, r1⟩ := hx.listH k.same
    obtain ⟨z, e1, r2⟩ := r1.atI e
    rw [hy.int]
    exact .inl ⟨p, vs, j, z, rfl, rfl, SqL.of h1, e1, q _ F H .refl k r2⟩
  · rename_i i j
    obtain ⟨p, vs, rfl, f1, h1, r1⟩ := hx.tuple k.same
    obtain ⟨z, e1, r2⟩ := r1.atI e
    rw [hy.int]
    exact .inr (.inl ⟨p, vs, j, z, rfl, rfl, h1, e1, q _ F H .refl k r2⟩)
theorem z_ix (ha : ZB X a f) (hc : ZB X c g) (hs : PlainIx c := by exact fun _ _ => rfl) : ZE X (.Subscript a c pos) (e2 dIx f g) := (pe_ix ix_seq ha hc hs).zimp fun _ _ _ q => tv_imp ad_ix q
/-! ### slices -/
theorem RpL.cut {F : Hp} {vs : List V} {ds : List PyData} (r : RpL K F vs ds) (lo hi : Option Int) : RpL K F (cutV vs lo hi) (cutD ds lo hi) := by
  unfold cutV cutD
  rw [r.length]
  exact (r.drop _).take _
theorem cutD_whole {ds : List PyData} {lo hi : Option Int} (h : HT.sIx ds.length 0 lo = 0 ∧ HT.sIx ds.length ds.length hi = ds.length) : cutD ds lo hi = ds := by
  unfold cutD
  rw [h.1, h.2]
  simp
/-- t[lo:hi] of a tuple -/
def rSlF (K : PySem.W.Frag) : V → Option Int → Option Int → Hp → VK → Prop := fun x lo hi H Q => ∃ a xs, x = .ref a ∧ SqT K H a xs ∧
  (HT.sIx xs.length 0 lo = 0 ∧ HT.sIx xs.length xs.length hi = xs.length → Q (.ref a) H) ∧ (¬ (HT.sIx xs.length 0 lo = 0 ∧ HT.sIx xs.length xs.length hi = xs.length) → NewT H (cutV xs lo hi) Q)
theorem sl_tupF : SlR X (rSlF X.K) := by
  intro pins s σ H x v vl vu lo hi sl Q I rx hs pl pu h
  obtain ⟨a, xs, rfl, hx, q1, q2⟩ := h
  by_cases hw : HT.sIx xs.length 0 lo = 0 ∧ HT.sIx xs.length xs.length hi = xs.length
  · exact sl_tupA pins s σ H _ v vl vu lo hi sl Q I rx hs pl pu ⟨a, xs, rfl, hx, q1, fun z => absurd hw z⟩
  · cases rx
    obtain ⟨its, r, ht, hz⟩ := I.tuple hx
    have hlen : its.toArray.size = xs.length := by rw [List.size_toArray]; exact r.length.symm
    refine ⟨"tuple", _, PyProof.Rows.slot_tuple_getitem.lookup, ht.typeIs, ?_⟩
    refine HT.getItem_tuple_cut ht hs pl pu (by rw [hlen]; exact hw) ?_ (by rw [hlen]; exact hz)
    rw [hlen]
    exact laidT I ((r.drop (HT.sIx xs.length 0 lo)).take (HT.sIx xs.length xs.length hi - HT.sIx xs.length 0 lo)) (Nat.le_trans (cutV_length xs lo hi) hz) (q2 hw)
def rCutA (K : PySem.W.Frag) : V → Option Int → Option Int → Hp → VK → Prop := fun x lo hi H Q => rSlF K x lo hi H Q ∨ rSlL K x lo hi H Q
theorem sl_cutA : SlR X (rCutA X.K) := sl_tupF.or sl_list
theorem cut_ok {b : Addr} {F H : Hp} {B : Bag} {v : V} {x d : PyData} {lo hi : Option Int} {Q : VK} (k : Ok b F H B) (hx : Bw K b F H v x) (e : dCut lo hi x = some d) (q : ∀ u F' H', Ext b F H F' H' → Ok b F' H' B → Rp K F' u d → Q u H') : rCutA K v lo hi H Q := by
  cases x <;> first | (cases e; done) | skip
  · cases e
    obtain ⟨p, vs, rfl, h1, r1⟩ := hx.listH k.same
    refine .inr ⟨p, vs, rfl, SqL.of h1, fun p np => ?_⟩
    obtain ⟨x2, k2⟩ := Ext.new (o := .lst (cutV vs lo hi)) k np
    exact q _ _ _ x2 k2 (.lst upd_same ((r1.cut lo hi).mono x2.fr))
  · rename_i ds
    cases e
    obtain ⟨p, vs, rfl, f1, h1, r1⟩ := hx.tuple k.same
    refine .inl ⟨p, vs, rfl, h1, fun w => ?_, fun w => .of k (r1.cut lo hi) q⟩
    rw [r1.length] at w
    rw [cutD_whole w] at q
    exact q _ F H .refl k (.tup f1 r1)
theorem int_of {y : PyData} {α : Type} {i : Int → Option α} {z : α} (e : (intOf y).bind i = some z) : ∃ j, y = .int j ∧ i j = some z := by
  cases y <;> first | (cases e; done) | skip
  exact ⟨_, rfl, e⟩
theorem z_cutL (ha : ZB X a f) (hc : ZB X c g) : ZE X (.Subscript a (.Slice (some c) none none p2) pos) (eCutL f g) := (pe_slice sl_cutA ha (po_some hc) po_none).zimp fun σ H Q ⟨b, F, ρ, B, k, lr, q⟩ => by
  obtain ⟨d, B', e, q⟩ := q.ok
  obtain ⟨x, B1, e1, e⟩ := R.bind_ok e
  obtain ⟨y, B2, e2, e⟩ := R.bind_ok e
  obtain ⟨e3, rfl⟩ := oR_ok e
  obtain ⟨j, rfl, e4⟩ := int_of e3
  refine eb_step k lr e1 fun v F1 H1 x1 k1 l1 r1 => eb_step k1 l1 e2 fun w F2 H2 x2 k2 l2 r2 => ⟨j, r2.int, ?_⟩
  exact cut_ok k2 (r1.ext x2) e4 fun u F' H' x3 k3 r3 => q u F' H' ((x1.trans x2).trans x3) k3 r3
theorem z_cutH (ha : ZB X a f) (hc : ZB X c g) : ZE X (.Subscript a (.Slice none (some c) none p2) pos) (eCutH f g) := (pe_slice sl_cutA ha po_none (po_some hc)).zimp fun σ H Q ⟨b, F, ρ, B, k, lr, q⟩ => by
  obtain ⟨d, B', e, q⟩ := q.ok
  obtain ⟨x, B1, e1, e⟩ := R.bind_ok e
  obtain ⟨y, B2, e2, e⟩ := R.bind_ok e
  obtain ⟨e3, rfl⟩ := oR_ok e
  obtain ⟨j, rfl, e4⟩ := int_of e3
  refine eb_step k lr e1 fun v F1 H1 x1 k1 l1 r1 => eb_step k1 l1 e2 fun w F2 H2 x2 k2 l2 r2 => ⟨j, r2.int, ?_⟩
  exact cut_ok k2 (r1.ext x2) e4 fun u F' H' x3 k3 r3 => q u F' H' ((x1.trans x2).trans x3) k3 r3
theorem z_cutB (ha : ZB X a f) (hc : ZB X c g) (hu : ZB X u h) : ZE X (.Subscript a (.Slice (some c) (some u) none p2) pos) (eCutB f g h) := (pe_slice sl_cutA ha (po_some hc) (po_some hu)).zimp fun σ H Q ⟨b, F, ρ, B, k, lr, q⟩ => by
  obtain ⟨d, B', e, q⟩ := q.ok
  obtain ⟨x, B1, e1, e⟩ := R.bind_ok e
  obtain ⟨y, B2, e2, e⟩ := R.bind_ok e
  obtain ⟨z, B3, e3, e⟩ := R.bind_ok e
  obtain ⟨e4, rfl⟩ := oR_ok e
  obtain ⟨i, rfl, e5⟩ := int_of e4
  obtain ⟨j, rfl, e6⟩ := int_of e5
  refine eb_step k lr e1 fun v F1 H1 x1 k1 l1 r1 => eb_step k1 l1 e2 fun w F2 H2 x2 k2 l2 r2 => ⟨i, r2.int, eb_step k2 l2 e3 fun m F3 H3 x3 k3 l3 r3 => ⟨j, r3.int, ?_⟩⟩
  exact cut_ok k3 ((r1.ext x2).ext x3) e6 fun u F' H' x4 k4 r4 => q u F' H' (((x1.trans x2).trans x3).trans x4) k4 r4
theorem z_rev {k : Nat} {p1 p2 p3 : Pos} (ha : ZB X a f) : ZE X (.Subscript a (.Slice none none (some (.UnaryOp .USub (.Constant (.int 1) k p1) p2)) p3) pos) (e1 dRev f) := (pe_revL ha).zimp fun σ H Q ⟨b, F, ρ, B, k, lr, q⟩ => by
  obtain ⟨d, B', e, q⟩ := q.ok
  obtain ⟨x, B1, e1, e⟩ := R.bind_ok e
  obtain ⟨e3, rfl⟩ := oR_ok e
  cases x <;> first | (cases e3; done) | skip
  cases e3
  refine eb_step k lr e1 fun v F1 H1 x1 k1 l1 r1 => ?_
  obtain ⟨p, vs, rfl, h1, r2⟩ := r1.listH k1.same
  refine ⟨p, vs, rfl, SqL.of h1, fun p np => ?_⟩
  obtain ⟨x2, k2⟩ := Ext.new (o := .lst vs.reverse) k1 np
  exact q _ _ _ (x1.trans x2) k2 (.lst upd_same (r2.reverse.mono x2.fr))
/-! ### unary minus -/
theorem z_neg (ha : ZB X a f) : ZE X (.UnaryOp .USub a pos) (e1 dNeg f) := (pe_un un_neg ha).zimp fun σ H Q ⟨b, F, ρ, B, k, lr, q⟩ => by
  obtain ⟨d, B', e, q⟩ := q.ok
  obtain ⟨x, B1, e1, e⟩ := R.bind_ok e
  obtain ⟨e3, rfl⟩ := oR_ok e
  cases x <;> first | (cases e3; done) | skip
  cases e3
  exact eb_step k lr e1 fun v F1 H1 x1 k1 l1 r1 => ⟨_, r1.int, q _ F1 H1 x1 k1 (.int _)⟩
/-! ### built-ins of one, two values -/
def Ad1 (K : PySem.W.Frag) (r : List V → Hp → VK → Prop) (op : PyData → Option PyData) : Prop := ∀ (b : Addr) (F H : Hp) (B : Bag) (v : V) (x d : PyData) (Q : VK), Ok b F H B → Bw K b F H v x → op x = some d →
  (∀ u F' H', Ext b F H F' H' → Ok b F' H' B → Rp K F' u d → Q u H') → r [v] H Q
def Ad2 (K : PySem.W.Frag) (r : List V → Hp → VK → Prop) (op : PyData → PyData → Option PyData) : Prop := ∀ (b : Addr) (F H : Hp) (B : Bag) (v w : V) (x y d : PyData) (Q : VK), Ok b F H B → Bw K b F H v x → Bw K b F H w y → op x y = some d →
  (∀ u F' H', Ext b F H F' H' → Ok b F' H' B → Rp K F' u d → Q u H') → r [v, w] H Q
theorem c1_imp {r : List V → Hp → VK → Prop} {op : PyData → Option PyData} (ad : Ad1 X.K r op) {σ : L2.St} {H : Hp} {Q : VK} (hq : TEv X.K (e1 op f) σ H Q) : tCB r (tCons (TEb X.K f) tNil) σ H Q := by
  obtain ⟨b, F, ρ, B, k, lr, q⟩ := hq
  obtain ⟨d, B', e, q⟩ := q.ok
  obtain ⟨x, B1, e1, e⟩ := R.bind_ok e
  obtain ⟨e3, rfl⟩ := oR_ok e
  exact eb_step k lr e1 fun v F1 H1 x1 k1 l1 r1 => ad b F1 H1 _ v x d Q k1 r1 e3 fun u F' H' x2 k2 r2 => q u F' H' (x1.trans x2) k2 r2
theorem c2_imp {r : List V → Hp → VK → Prop} {op : PyData → PyData → Option PyData} (ad : Ad2 X.K r op) {σ : L2.St} {H : Hp} {Q : VK} (hq : TEv X.K (e2 op f g) σ H Q) : tCB r (tCons (TEb X.K f) (tCons (TEb X.K g) tNil)) σ H Q := by
  obtain ⟨b, F, ρ, B, k, lr, q⟩ := hq
  obtain ⟨d, B', e, q⟩ := q.ok
  obtain ⟨x, B1, e1, e⟩ := R.bind_ok e
  obtain ⟨y, B2, e2, e⟩ := R.bind_ok e
  obtain ⟨e3, rfl⟩ := oR_ok e
  exact eb_step k lr e1 fun v F1 H1 x1 k1 l1 r1 => eb_step k1 l1 e2 fun w F2 H2 x2 k2 l2 r2 => ad b F2 H2 _ v w x y d Q k2 (r1.ext x2) r2 e3 fun u F' H' x3 k3 r3 => q u F' H' ((x1.trans x2).trans x3) k3 r3
/-- f(a), f a built-in function; a built-in class -/
theorem z_b1 {x : Str} {id : String} {r : List V → Hp → VK → Prop} {op : PyData → Option PyData} (hc : CallR X (.builtin id) r) (ad : Ad1 X.K r op) (hv : bootBuiltins x = some (.builtin id)) (hm : X.mg x = none) (ha : ZB X a f) (hg : Gl X x := by rfl) (hn : x ≠ "__name__" := by decide) (hdb : (x == ("__debug__" : Str)) = false := by decide)
    (hs : starEach [a] X.env = (false, eval a X.env) :: starEach [] X.env := by rfl) : ZE X (.Call (.Name x p) [a] [] pos) (e1 op f) := (pe_callB hc hg hm hv (pa_cons ha pa_nil hs) hn hdb hs rfl).zimp fun _ _ _ q => c1_imp ad q
theorem z_t1 {x : Str} {id : String} {r : List V → Hp → VK → Prop} {op : PyData → Option PyData} (hc : CallR X (.type id) r) (ad : Ad1 X.K r op) (hv : bootBuiltins x = some (.type id)) (hm : X.mg x = none) (ha : ZB X a f) (hg : Gl X x := by rfl) (hn : x ≠ "__name__" := by decide) (hdb : (x == ("__debug__" : Str)) = false := by decide)
    (hs : starEach [a] X.env = (false, eval a X.env) :: starEach [] X.env := by rfl) : ZE X (.Call (.Name x p) [a] [] pos) (e1 op f) := (pe_callTy hc hg hm hv (pa_cons ha pa_nil hs) hn hdb hs rfl).zimp fun _ _ _ q => c1_imp ad q
theorem z_b2 {x : Str} {id : String} {r : List V → Hp → VK → Prop} {op : PyData → PyData → Option PyData} (hc : CallR X (.builtin id) r) (ad : Ad2 X.K r op) (hv : bootBuiltins x = some (.builtin id)) (hm : X.mg x = none) (ha : ZB X a f) (hd : ZB X c g) (hg : Gl X x := by rfl) (hn : x ≠ "__name__" := by decide) (hdb : (x == ("__debug__" : Str)) = false := by decide)
    (hs1 : starEach [c] X.env = (false, eval c X.env) :: starEach [] X.env := by rfl) (hs : starEach [a, c] X.env = (false, eval a X.env) :: starEach [c] X.env := by rfl) (hpl : (backTo pos (starEach [c] X.env)).any (·.1) = false := by rfl) : ZE X (.Call (.Name x p) [a, c] [] pos) (e2 op f g) :=
  (pe_callB hc hg hm hv (pa_cons ha (pa_cons hd pa_nil hs1) hs) hn hdb hs hpl).zimp fun _ _ _ q => c2_imp ad q
theorem ad_len : Ad1 K (fun xs H Q => ∃ p ys, xs = [.ref p] ∧ (SqL K H p ys ∨ SqT K H p ys) ∧ Q (.int ys.length) H) dLen := fun b F H B v x d Q k hx e q => by
  cases x <;> first | (cases e; done) | skip
  · cases e
    obtain ⟨p, vs, rfl, h1, r1⟩ := hx.listH k.same
    exact ⟨p, vs, rfl, .inl (SqL.of h1), by rw [r1.length]; exact q _ F H .refl k (.int _)⟩
  · cases e
    obtain ⟨p, vs, rfl, f1, h1, r1⟩ := hx.tuple k.same
    exact ⟨p, vs, rfl, .inr h1, by rw [r1.length]; exact q _ F H .refl k (.int _)⟩
theorem RpL.ints {F : Hp} : ∀ {ds : List PyData} {vs : List V} {ns : List Int}, RpL K F vs ds → intsOf ds = some ns → vs = ns.map V.int
  | [], _, _, .nil, e => by cases e; rfl
  | d :: ds, _, ns, .cons r t, e => by
    cases d <;> first | (cases e; done) | skip
    cases q : intsOf ds with
    | none => simp [intsOf, q] at e
    | some m =>
      simp only [intsOf, q, Option.map_some, Option.some.injEq] at e
      subst e
      cases r
      rw [RpL.ints t q]
      rfl
theorem RpL.bls {F : Hp} : ∀ {ds : List PyData} {vs : List V} {ns : List Bool}, RpL K F vs ds → blsOf ds = some ns → vs = ns.map V.bl
  | [], _, _, .nil, e => by cases e; rfl
  | d :: ds, _, ns, .cons r t, e => by
    cases d <;> first | (cases e; done) | skip
    cases q : blsOf ds with
    | none => simp [blsOf, q] at e
    | some m =>
      simp only [blsOf, q, Option.map_some, Option.some.injEq] at e
      subst e
      cases r
      rw [RpL.bls t q]
      rfl
theorem ad_sumL : Ad1 K (rSum K) dSum := fun b F H B v x d Q k hx e q => by
  cases x <;> first | (cases e; done) | skip
  obtain ⟨ns, e1, rfl⟩ := map_some_ok e
  obtain ⟨p, vs, rfl, h1, r1⟩ := hx.listH k.same
  rw [r1.ints e1] at h1
  exact ⟨p, ns, rfl, SqL.of h1, q _ F H .refl k (.int _)⟩
theorem ad_all : Ad1 K (rAll K) dAll := fun b F H B v x d Q k hx e q => by
  cases x <;> first | (cases e; done) | skip
  obtain ⟨ns, e1, rfl⟩ := map_some_ok e
  obtain ⟨p, vs, rfl, h1, r1⟩ := hx.listH k.same
  rw [r1.bls e1] at h1
  exact ⟨p, ns, rfl, SqL.of h1, q _ F H .refl k (.bl _)⟩
theorem ad_any : Ad1 K (rAny K) dAny := fun b F H B v x d Q k hx e q => by
  cases x <;> first | (cases e; done) | skip
  obtain ⟨ns, e1, rfl⟩ := map_some_ok e
  obtain ⟨p, vs, rfl, h1, r1⟩ := hx.listH k.same
  rw [r1.bls e1] at h1
  exact ⟨p, ns, rfl, SqL.of h1, q _ F H .refl k (.bl _)⟩
/-- tuple(x) of a list, a tuple -/
theorem call_tupleF : CallR X (.type "tuple") (fun xs H Q => ∃ p ys, xs = [.ref p] ∧ ((SqL X.K H p ys ∧ NewT H ys Q) ∨ (SqT X.K H p ys ∧ Q (.ref p) H))) := by
  intro pins s σ H xs us Q I r h
  obtain ⟨p, ys, rfl, h⟩ := h
  obtain ⟨u, rfl, rx⟩ := vals1 r
  cases rx
  rcases h with ⟨hq, q⟩ | ⟨hq, q⟩
  · obtain ⟨its, r', pl, hz⟩ := I.list hq
    have hlen := r'.length
    refine call_tuple_list pl.isList (fun h' kp => ?_) (by simp only [List.size_toArray] <;> omega)
    have I1 : Inv X pins σ H { s with heap := h' } := I.kept (t' := s.toks) kp
    exact laidT I1 r' hz q
  · obtain ⟨its, r', pl, hz⟩ := I.tuple hq
    exact call_tuple_same pl ⟨.ref p, H, I, rfl, q⟩
theorem ad_tuple : Ad1 K (fun xs H Q => ∃ p ys, xs = [.ref p] ∧ ((SqL K H p ys ∧ NewT H ys Q) ∨ (SqT K H p ys ∧ Q (.ref p) H))) dTuple := fun b F H B v x d Q k hx e q => by
  cases x <;> first | (cases e; done) | skip
  · cases e
    obtain ⟨p, vs, rfl, h1, r1⟩ := hx.listH k.same
    exact ⟨p, vs, rfl, .inl ⟨SqL.of h1, .of k r1 q⟩⟩
  · cases e
    obtain ⟨p, vs, rfl, f1, h1, r1⟩ := hx.tuple k.same
    exact ⟨p, vs, rfl, .inr ⟨h1, q _ F H .refl k (.tup f1 r1)⟩⟩
theorem ad_list : Ad1 K (fun xs H Q => ∃ p ys, xs = [.ref p] ∧ (SqL K H p ys ∨ SqT K H p ys) ∧ ∀ l, H l = none → Q (.ref l) (upd H l (.lst ys))) dList := fun b F H B v x d Q k hx e q => by
  cases x <;> first | (cases e; done) | skip
  · cases e
    obtain ⟨p, vs, rfl, h1, r1⟩ := hx.listH k.same
    refine ⟨p, vs, rfl, .inl (SqL.of h1), fun l nl => ?_⟩
    obtain ⟨x2, k2⟩ := Ext.new (o := .lst vs) k nl
    exact q _ _ _ x2 k2 (.lst upd_same (r1.mono x2.fr))
  · cases e
    obtain ⟨p, vs, rfl, f1, h1, r1⟩ := hx.tuple k.same
    refine ⟨p, vs, rfl, .inr h1, fun l nl => ?_⟩
    obtain ⟨x2, k2⟩ := Ext.new (o := .lst vs) k nl
    exact q _ _ _ x2 k2 (.lst upd_same (r1.mono x2.fr))
theorem ad_abs : Ad1 K (fun xs H Q => ∃ i, xs = [.int i] ∧ Q (.int (if i < 0 then -i else i)) H) dAbs := fun b F H B v x d Q k hx e q => by
  cases x <;> first | (cases e; done) | skip
  cases e
  rw [hx.int]
  exact ⟨_, rfl, q _ F H .refl k (.int _)⟩
theorem ad_int : Ad1 K (fun xs H Q => (∃ i, xs = [.int i] ∧ Q (.int i) H) ∨ ∃ k, xs = [.bl k] ∧ Q (.int (if k then 1 else 0)) H) dInt := fun b F H B v x d Q k hx e q => by
  cases x <;> first | (cases e; done) | skip
  · cases e
    rw [hx.bl]
    exact .inr ⟨_, rfl, q _ F H .refl k (.int _)⟩
  · cases e
    rw [hx.int]
    exact .inl ⟨_, rfl, q _ F H .refl k (.int _)⟩
theorem ad_max2 : Ad2 K (fun xs H Q => ∃ i j, xs = [.int i, .int j] ∧ Q (.int (if j > i then j else i)) H) dMax2 := fun b F H B v w x y d Q k hx hy e q => by
  cases x <;> cases y <;> first | (cases e; done) | skip
  cases e
  rw [hx.int, hy.int]
  exact ⟨_, _, rfl, q _ F H .refl k (.int _)⟩
theorem ad_min2 : Ad2 K (fun xs H Q => ∃ i j, xs = [.int i, .int j] ∧ Q (.int (if j < i then j else i)) H) dMin2 := fun b F H B v w x y d Q k hx hy e q => by
  cases x <;> cases y <;> first | (cases e; done) | skip
  cases e
  rw [hx.int, hy.int]
  exact ⟨_, _, rfl, q _ F H .refl k (.int _)⟩
end
end Tp

set_option Elab.async false
set_option linter.all false
set_option maxRecDepth 100000
set_option maxHeartbeats 4000000
/-! Snd5: targets, what is walked, comprehensions. -/
namespace Tp
open PySem PySem.Spec L2
/-! ### targets -/
def gsOf : List Nat → TGs
  | [] => gNil
  | i :: is => gCons (gName i) (gsOf is)
def gOf (K : PySem.W.Frag) : Tg → TG
  | .one i => gName i
  | .many is => gTup K is.length (gsOf is)
abbrev ZG (X : Cx) (e : Expr) (t : Tg) : Prop := PG X e (gOf X.K t)
section
variable {X : Cx} {K : PySem.W.Frag} {es : List Expr} {pos : Pos} {i : Nat} {is : List Nat}
theorem z_g1 {x : Str} (hN : X.N.Nodup) (hi : X.N[i]? = some x := by rfl) (hx : Loc X.env.scope x := by first | exact Or.inl rfl | exact Or.inr rfl) (hf : X.fn x = true ∨ X.env.scope.names.lookup x = some .local := by first | exact .inl rfl | exact .inr rfl | assumption) : ZG X (.Name x pos) (.one i) := pg_name hN hi hx hf
theorem z_gs0 : PGs X [] (gsOf []) := pgs_nil
theorem z_gs {e : Expr} (h1 : ZG X e (.one i)) (h2 : PGs X es (gsOf is)) (hs : (assignEach (e :: es) X.env).map (·.2) = assign e X.env :: (assignEach es X.env).map (·.2) := by rfl) : PGs X (e :: es) (gsOf (i :: is)) := pgs_cons h1 h2 hs
theorem z_gt {k : Nat} (hc : X.calm = true) (h : PGs X es (gsOf is)) (hn : (assignEach es X.env).length = is.length := by rfl) (hst : (assignEach es X.env).findIdx? (·.1) = none := by rfl) : ZG X (.Tuple es k pos) (.many is) := pg_tup hc h hn hst
end
def Tg.slots : Tg → List Nat
  | .one i => [i]
  | .many is => is
theorem wipe_set {i : Nat} {v : Option V} : ∀ {own : List Nat} {σ : L2.St}, i ∈ own → L2.wipe (σ.set i v) own = L2.wipe σ own
  | j :: js, σ, h => by
    unfold L2.wipe
    by_cases e : i ∈ js
    · rw [wipe_set e]
    · have ej : i = j := by
        rcases List.mem_cons.mp h with z | z
        · exact z
        · exact absurd z e
      subst ej
      have gen : ∀ (js : List Nat), i ∉ js → L2.wipe (σ.set i v) js = (L2.wipe σ js).set i v := by
        intro js
        induction js with
        | nil => intro _; rfl
        | cons a r ih =>
          intro hn
          rw [List.mem_cons, not_or] at hn
          unfold L2.wipe
          rw [ih hn.2, List.set_comm _ _ hn.1]
      rw [gen js e, List.set_set]
theorem gs_all {K : PySem.W.Frag} {b : Addr} {F H : Hp} {Q : L2.St → Hp → Prop} : ∀ {is : List Nat} {vs : List V} {ds : List PyData} {ρ ρ' : Env} {σ : L2.St}, LR K b F H ρ σ → RpL K F vs ds → bindAll is ds ρ = some ρ' →
    (∀ σ', LR K b F H ρ' σ' → (∀ own : List Nat, (∀ i ∈ is, i ∈ own) → L2.wipe σ' own = L2.wipe σ own) → Q σ' H) → gsOf is vs σ H Q
  | [], _, _, ρ, ρ', σ, l, r, e, q => by
    cases r with
    | nil => cases e; exact ⟨rfl, q σ l fun _ _ => rfl⟩
    | cons _ _ => cases e
  | i :: is, _, _, ρ, ρ', σ, l, r, e, q => by
    cases r with
    | nil => cases e
    | cons r1 r2 =>
      refine ⟨_, _, rfl, ?_⟩
      refine gs_all (is := is) (l.set i r1) r2 e fun σ' l' hw => q σ' l' fun own ho => ?_
      rw [hw own fun j hj => ho j (List.mem_cons_of_mem _ hj), wipe_set (ho i (List.mem_cons_self ..))]
/-- what is walked: what stands still; or (w) a tuple of such, to be taken apart at once -/
def Itm (K : PySem.W.Frag) (w : Bool) (F H : Hp) (v : V) (d : PyData) : Prop := Rp K F v d ∨ (w = true ∧ ∃ T xs ds, v = .ref T ∧ SqT K H T xs ∧ RpL K F xs ds ∧ d = .tuple ds)
def Tg.okw : Tg → Bool → Bool
  | .one _, true => false
  | _, _ => true
theorem Itm.tup {K : PySem.W.Frag} {w : Bool} {F H : Hp} {v : V} {ds : List PyData} (k : Same F H) (r : Itm K w F H v (.tuple ds)) : ∃ a xs, v = .ref a ∧ SqT K H a xs ∧ RpL K F xs ds := by
  rcases r with r | ⟨_, T, xs, ds', h1, h2, h3, h4⟩
  · cases r with
    | tup s r => exact ⟨_, _, rfl, (s.mono k).sq, r⟩
  · cases h4
    exact ⟨T, xs, h1, h2, h3⟩
theorem Itm.one {K : PySem.W.Frag} {w : Bool} {F H : Hp} {v : V} {d : PyData} {i : Nat} (r : Itm K w F H v d) (h : (Tg.one i).okw w = true) : Rp K F v d := by
  rcases r with r | ⟨hw, _⟩
  · exact r
  · subst hw; cases h
theorem g_ok {K : PySem.W.Frag} {b : Addr} {F H : Hp} {Q : L2.St → Hp → Prop} {t : Tg} {v : V} {d : PyData} {ρ ρ' : Env} {σ : L2.St} {w : Bool} (k : Same F H) (l : LR K b F H ρ σ) (r : Itm K w F H v d) (hw : t.okw w = true) (e : t.bnd d ρ = some ρ')
    (q : ∀ σ', LR K b F H ρ' σ' → (∀ own : List Nat, (∀ i ∈ t.slots, i ∈ own) → L2.wipe σ' own = L2.wipe σ own) → Q σ' H) : gOf K t v σ H Q := by
  cases t with
  | one i =>
    cases e
    exact q _ (l.set i (r.one hw)) fun own ho => wipe_set (ho i (List.mem_cons_self ..))
  | many is =>
    cases d <;> first | (cases e; done) | skip
    rename_i ds
    obtain ⟨a, xs, h1, h2, r⟩ := r.tup k
    have len : ∀ {is : List Nat} {ds : List PyData} {ρ ρ' : Env}, bindAll is ds ρ = some ρ' → is.length = ds.length := by
      intro is
      induction is with
      | nil => intro ds ρ ρ' e; cases ds <;> first | rfl | cases e
      | cons a is ih => intro ds ρ ρ' e; cases ds <;> first | (cases e; done) | (exact congrArg Nat.succ (ih e))
    exact ⟨_, _, h1, h2, by rw [r.length]; exact (len e).symm, gs_all l r e q⟩
/-! ### what is walked -/
/-- J walks the data xs, as long as what stood still stands (and the bag is where it is) -/
def WkS (K : PySem.W.Frag) (w : Bool) (b : Addr) (F : Hp) (J : It) (xs : List PyData) : Prop := xs.length ≤ lim ∧ ∀ (i : Nat) (F1 H1 : Hp) (B : Bag), Same F F1 → Ok b F1 H1 B →
  (∀ d, xs[i]? = some d → J.go i H1 ∧ ∀ x H2, J.yld i H1 x H2 → ∃ F2, Ext b F1 H1 F2 H2 ∧ Ok b F2 H2 B ∧ Itm K w F2 H2 x d) ∧ (xs.length ≤ i → J.stop i H1)
/-- .. as long as nothing but the bag has changed -/
def WkE (K : PySem.W.Frag) (w : Bool) (b : Addr) (F H : Hp) (J : It) (xs : List PyData) : Prop := xs.length ≤ lim ∧ ∀ (i : Nat) (F1 H1 : Hp) (B : Bag), Ext b F H F1 H1 → Ok b F1 H1 B →
  (∀ d, xs[i]? = some d → J.go i H1 ∧ ∀ x H2, J.yld i H1 x H2 → ∃ F2, Ext b F1 H1 F2 H2 ∧ Ok b F2 H2 B ∧ Itm K w F2 H2 x d) ∧ (xs.length ≤ i → J.stop i H1)
theorem WkS.e {K : PySem.W.Frag} {wk : Bool} {b : Addr} {F H : Hp} {J : It} {xs : List PyData} (w : WkS K wk b F J xs) : WkE K wk b F H J xs := ⟨w.1, fun i F1 H1 B x k => w.2 i F1 H1 B x.fr k⟩
def TIs (K : PySem.W.Frag) (wk : Bool) (l : LF) : TI := fun σ H R => ∃ b F ρ B xs B', Ok b F H B ∧ LR K b F H ρ σ ∧ l ρ B = .ok xs B' ∧ ∀ J F' H', Ext b F H F' H' → Ok b F' H' B' → WkS K wk b F' J xs → R J H'
def TIe (K : PySem.W.Frag) (wk : Bool) (l : LF) : TI := fun σ H R => ∃ b F ρ B xs B', Ok b F H B ∧ LR K b F H ρ σ ∧ l ρ B = .ok xs B' ∧ ∀ J F' H', Ext b F H F' H' → Ok b F' H' B' → WkE K wk b F' H' J xs → R J H'
abbrev ZIs (X : Cx) (wk : Bool) (tg iter : Expr) (l : LF) : Prop := PI X tg iter (TIs X.K wk l)
abbrev ZIe (X : Cx) (wk : Bool) (tg iter : Expr) (l : LF) : Prop := PI X tg iter (TIe X.K wk l)
section
variable {X : Cx} {K : PySem.W.Frag} {tg e c : Expr} {f g : EF} {l : LF} {p pos : Pos}
theorem _root_.L2.PI.zimp {t t' : TI} (h : PI X tg e t) (i : ∀ σ H R, t' σ H R → t σ H R) : PI X tg e t' := ⟨fun pins s σ H R I q => h.run pins s σ H R I (i _ _ _ q)⟩
theorem _root_.L2.PI.ze {wk : Bool} (h : ZIs X wk tg e l) : ZIe X wk tg e l := h.zimp fun σ H R ⟨b, F, ρ, B, xs, B', k, lr, e, q⟩ => ⟨b, F, ρ, B, xs, B', k, lr, e, fun J F' H' x k' w => q J F' H' x k' w.e⟩
/-- a walk whose list, tuple is there: it is no longer than a list may be -/
theorem _root_.L2.PI.bound {t t' : TI} (h : PI X tg e t) (i : ∀ σ H R, t' σ H R → t σ H fun J H' => ∃ a xs, (SqL X.K H' a xs ∨ SqT X.K H' a xs) ∧ (xs.length ≤ sizeLine → R J H')) : PI X tg e t' := ⟨fun pins s σ H R I q =>
  thn (h.run pins s σ H _ I (i _ _ _ q)) fun v s1 h1 => thn h1 fun itv s2 h2 => by
    obtain ⟨it, fp, tn, J, H', e1, I2, T, st, ff, a, xs, hs, r⟩ := h2
    refine ⟨it, fp, tn, J, H', e1, I2, T, st, ff, r ?_⟩
    rcases hs with hs | hs
    · obtain ⟨_, _, _, z⟩ := I2.list hs; exact z
    · obtain ⟨_, _, _, z⟩ := I2.tuple hs; exact z⟩
theorem wk_list {b : Addr} {F : Hp} {a : Addr} {vs : List V} {xs : List PyData} (h : F a = some (.lst vs)) (r : RpL K F vs xs) (z : xs.length ≤ lim) : WkS K false b F (Itl K a) xs := ⟨z, fun i F1 H1 B s k => by
  have hH : SqL K H1 a vs := SqL.of (k.same _ _ (s _ _ h))
  refine ⟨fun d e => ?_, fun hl => ⟨vs, hH, by rw [r.length]; exact hl⟩⟩
  obtain ⟨v, ev, rv⟩ := r.get e
  refine ⟨⟨vs, v, hH, ev⟩, fun x H2 ⟨e2, hx⟩ => ?_⟩
  subst e2
  have := (hx vs hH).symm.trans ev
  cases this
  exact ⟨F1, .refl, k, .inl (rv.mono s)⟩⟩
theorem wk_listE {b : Addr} {F H : Hp} {a : Addr} {vs : List V} {xs : List PyData} (na : a ≠ b) (h : H a = some (.lst vs)) (r : RpL K F vs xs) (z : xs.length ≤ lim) : WkE K false b F H (Itl K a) xs := ⟨z, fun i F1 H1 B s k => by
  have hH : SqL K H1 a vs := SqL.of (s.hp _ _ na h)
  refine ⟨fun d e => ?_, fun hl => ⟨vs, hH, by rw [r.length]; exact hl⟩⟩
  obtain ⟨v, ev, rv⟩ := r.get e
  refine ⟨⟨vs, v, hH, ev⟩, fun x H2 ⟨e2, hx⟩ => ?_⟩
  subst e2
  have := (hx vs hH).symm.trans ev
  cases this
  exact ⟨F1, .refl, k, .inl (rv.mono s.fr)⟩⟩
theorem wk_tup {b : Addr} {F : Hp} {a : Addr} {vs : List V} {xs : List PyData} (h : TupF K F a vs) (r : RpL K F vs xs) (z : xs.length ≤ lim) : WkS K false b F (Itt K a) xs := ⟨z, fun i F1 H1 B s k => by
  have hH : SqT K H1 a vs := ((h.mono s).mono k.same).sq
  refine ⟨fun d e => ?_, fun hl => ⟨vs, hH, by rw [r.length]; exact hl⟩⟩
  obtain ⟨v, ev, rv⟩ := r.get e
  refine ⟨⟨vs, v, hH, ev⟩, fun x H2 ⟨e2, hx⟩ => ?_⟩
  subst e2
  have := (hx vs hH).symm.trans ev
  cases this
  exact ⟨F1, .refl, k, .inl (rv.mono s)⟩⟩
end
end Tp

set_option Elab.async false
set_option linter.all false
set_option maxRecDepth 100000
set_option maxHeartbeats 4000000
/-! Snd6: what is walked (lists, tuples, ranges, zip), comprehensions. -/
namespace Tp
open PySem PySem.Spec L2 RZ
section
variable {X : Cx} {K : PySem.W.Frag} {tg e c : Expr} {f g : EF} {l : LF} {p pos : Pos}
def tSeqI (K : PySem.W.Frag) (tl : TE) : TI := fun σ H R => tl σ H fun x H1 => ∃ a xs, x = .ref a ∧
  ((SqL K H1 a xs ∧ (xs.length ≤ sizeLine → R (Itl K a) H1)) ∨ (SqT K H1 a xs ∧ (xs.length ≤ sizeLine → R (Itt K a) H1)))
theorem pi_seqA {tl : TE} (hl : PE X e tl) : PI X tg e (tSeqI X.K tl) := by
  constructor
  intro pins s σ H R I hq
  refine thn (hl.run pins s σ H _ I hq) ?_
  rintro u s1 ⟨x, H1, I1, r1, a, xs, rfl, ho⟩
  obtain rfl : u = Value.ref a := r1
  have mine : ∀ o : Obj, Inv X pins σ H1 { s1 with heap := s1.heap.push o } := fun o => I1.kept (t' := s1.toks) fun b z hz => Heap.get?_push_of_some _ hz
  have fps : ∀ o : Obj, ∀ b ∈ [s1.heap.objs.size], FpOk X pins H1 b := fun o b hb => by
    have eb : b = s1.heap.objs.size := by simpa using hb
    rw [eb]
    exact I1.fpOk (Nat.le_refl _) (I1.hok.fresh (Nat.le_refl _))
  rcases ho with ⟨hs, hr⟩ | ⟨hs, hr⟩
  · obtain ⟨its, rv, pl, hz⟩ := I1.list hs
    refine wpAny_pyIter_list pl.isList ⟨s1.heap.objs.size, [s1.heap.objs.size], _, _, H1, rfl, mine _, turn_list a _, ?_, fps default, hr hz⟩
    exact ⟨_, Heap.get?_push_size _ rfl, rfl, rfl⟩
  · obtain ⟨its, rv, pl, hz⟩ := I1.tuple hs
    refine wpAny_pyIter_tuple (show s1.heap.IsTuple a its.toArray from pl) ⟨s1.heap.objs.size, [s1.heap.objs.size], _, _, H1, rfl, mine _, turn_tuple a _, ?_, fps default, hr hz⟩
    exact ⟨_, Heap.get?_push_size _ rfl, rfl, rfl⟩
/-- over a list, a tuple that stands still -/
theorem z_iS (he : ZE X e f) : ZIs X false tg e (iSeq f) := (pi_seqA he).zimp fun σ H RR ⟨b, F, ρ, B, xs, B', k, lr, e, q⟩ => by
  obtain ⟨d, B1, e1, e⟩ := R.bind_ok e
  refine ev_step k lr e1 fun v F1 H1 x1 k1 l1 r1 => ?_
  cases d <;> first | (cases e; done) | skip
  · cases e
    cases r1 with
    | lst s r =>
      exact ⟨_, _, rfl, .inl ⟨SqL.of (k1.same _ _ s), fun z => q _ F1 H1 x1 k1 (wk_list s r (by rw [← r.length]; exact z))⟩⟩
  · cases e
    cases r1 with
    | tup s r =>
      exact ⟨_, _, rfl, .inr ⟨(s.mono k1.same).sq, fun z => q _ F1 H1 x1 k1 (wk_tup s r (by rw [← r.length]; exact z))⟩⟩
/-- .. or over a slot's own list (a comprehension) -/
theorem z_iB (he : ZB X e f) : ZIe X false tg e (iSeq f) := (pi_seqA he).zimp fun σ H RR ⟨b, F, ρ, B, xs, B', k, lr, e, q⟩ => by
  obtain ⟨d, B1, e1, e⟩ := R.bind_ok e
  refine eb_step k lr e1 fun v F1 H1 x1 k1 l1 r1 => ?_
  cases d <;> first | (cases e; done) | skip
  · cases e
    rcases r1 with r1 | ⟨p, vs, l', h1, h2, h3, h4, h5, h6⟩ | ⟨p, kvs, vs, h1, h2, h3, h4, h5, h6⟩
    · cases r1 with
      | lst s r =>
        exact ⟨_, _, rfl, .inl ⟨SqL.of (k1.same _ _ s), fun z => q _ F1 H1 x1 k1 (wk_list s r (by rw [← r.length]; exact z)).e⟩⟩
    · cases h6
      exact ⟨p, vs, h1, .inl ⟨SqL.of h4, fun z => q _ F1 H1 x1 k1 (wk_listE h2 h4 h5 (by rw [← h5.length]; exact z))⟩⟩
    · cases h6
  · cases e
    rcases r1 with r1 | ⟨p, vs, l', h1, h2, h3, h4, h5, h6⟩ | ⟨p, kvs, vs, h1, h2, h3, h4, h5, h6⟩
    · cases r1 with
      | tup s r =>
        exact ⟨_, _, rfl, .inr ⟨(s.mono k1.same).sq, fun z => q _ F1 H1 x1 k1 (wk_tup s r (by rw [← r.length]; exact z)).e⟩⟩
    · cases h6
    · cases h6
/-! ### ranges -/
theorem wk_rng {b : Addr} {F : Hp} {lo hi : Int} (h : (hi - lo).toNat ≤ lim) : WkS K false b F (Itr lo (hi - lo).toNat) (rngI lo hi) := ⟨by simpa [rngI] using h, fun i F1 H1 B s k => by
  constructor
  · intro d e
    have hi' : i < (hi - lo).toNat := by
      have := (List.getElem?_eq_some_iff.mp e).1
      simpa [rngI] using this
    refine ⟨hi', fun x H2 ⟨e2, hx⟩ => ?_⟩
    subst e2 hx
    have ed : d = .int (lo + (i : Int)) := by
      unfold rngI at e
      rw [List.getElem?_map, List.getElem?_range hi'] at e
      exact (Option.some.inj e).symm
    subst ed
    exact ⟨F1, .refl, k, .inl (.int _)⟩
  · intro hl
    show (hi - lo).toNat ≤ i
    unfold rngI at hl
    rw [List.length_map, List.length_range] at hl
    exact hl⟩
theorem small_i {i : Int} (h : smallI i = true) : -1048576 ≤ i ∧ i ≤ 1048576 := of_decide_eq_true h
theorem z_r1 (hm : X.mg "range" = none) (ha : ZB X e f) (hg : Gl X "range" := by rfl) (hs : starEach [e] X.env = (false, eval e X.env) :: starEach [] X.env := by rfl) (hs' : starEach [e] X.env = [(false, eval e X.env)] := by rfl) : ZIs X false tg (.Call (.Name "range" p) [e] [] pos) (iRng1 f) :=
  (pi_range1 hg hm (pa_cons ha pa_nil hs) hs').zimp fun σ H RR ⟨b, F, ρ, B, xs, B', k, lr, e, q⟩ => by
  obtain ⟨d, B1, e1, e⟩ := R.bind_ok e
  cases d <;> first | (cases e; done) | skip
  simp only at e
  split at e <;> first | (cases e; done) | skip
  rename_i c
  cases e
  have := small_i c
  rename_i j
  refine eb_step k lr e1 fun v F1 H1 x1 k1 l1 r1 => ?_
  have ev := r1.int
  subst ev
  refine ⟨j, rfl, by omega, by omega, q _ F1 H1 x1 k1 ?_⟩
  have hz : (j - 0).toNat ≤ lim := by
    show _ ≤ 2 ^ 24
    omega
  have w := wk_rng (K := X.K) (b := b) (F := F1) (lo := 0) (hi := j) hz
  rw [Int.sub_zero] at w
  exact w
theorem z_r2 (hm : X.mg "range" = none) (ha : ZB X e f) (hc : ZB X c g) (hg : Gl X "range" := by rfl) (hs1 : starEach [c] X.env = (false, eval c X.env) :: starEach [] X.env := by rfl) (hs : starEach [e, c] X.env = (false, eval e X.env) :: starEach [c] X.env := by rfl)
    (ht : starEach [e, c] X.env = [(false, eval e X.env), (false, eval c X.env)] := by rfl) (ht2 : starEach [c] X.env = [(false, eval c X.env)] := by rfl) : ZIs X false tg (.Call (.Name "range" p) [e, c] [] pos) (iRng2 f g) :=
  (pi_range2 hg hm (pa_cons ha (pa_cons hc pa_nil hs1) hs) ht ht2).zimp fun σ H RR ⟨b, F, ρ, B, xs, B', k, lr, e, q⟩ => by
  obtain ⟨d, B1, e1, e⟩ := R.bind_ok e
  obtain ⟨d2, B2, e2, e⟩ := R.bind_ok e
  cases d <;> cases d2 <;> first | (cases e; done) | skip
  simp only at e
  split at e <;> first | (cases e; done) | skip
  rename_i cc
  cases e
  rw [Bool.and_eq_true] at cc
  have h1 := small_i cc.1
  have h2 := small_i cc.2
  refine eb_step k lr e1 fun v F1 H1 x1 k1 l1 r1 => eb_step k1 l1 e2 fun w F2 H2 x2 k2 l2 r2 => ?_
  have ev := r1.int
  have ew := r2.int
  subst ev ew
  refine ⟨_, _, rfl, by omega, q _ F2 H2 (x1.trans x2) k2 (wk_rng ?_)⟩
  show _ ≤ 2 ^ 24
  omega
/-! ### zip -/
theorem zipD_len : ∀ xs ys : List PyData, (zipD xs ys).length = min xs.length ys.length
  | [], _ => by simp [zipD]
  | _ :: _, [] => by simp [zipD]
  | x :: xs, y :: ys => by
    show (zipD xs ys).length + 1 = min (xs.length + 1) (ys.length + 1)
    rw [zipD_len xs ys]
    omega
theorem zipD_get : ∀ {xs ys : List PyData} {i : Nat} {d : PyData}, (zipD xs ys)[i]? = some d → ∃ x y, xs[i]? = some x ∧ ys[i]? = some y ∧ d = .tuple [x, y]
  | [], _, _, _, e => by simp [zipD] at e
  | _ :: _, [], _, _, e => by simp [zipD] at e
  | x :: xs, y :: ys, 0, d, e => by
    simp [zipD] at e
    exact ⟨x, y, rfl, rfl, e.symm⟩
  | x :: xs, y :: ys, i + 1, d, e => by
    have e' : (zipD xs ys)[i]? = some d := by simpa [zipD] using e
    simpa using zipD_get e'
theorem pair_new {b : Addr} {F H : Hp} {B : Bag} {x y : V} {dx dy : PyData} {T : Addr} (k : Ok b F H B) (n : H T = none) (rx : Rp K F x dx) (ry : Rp K F y dy) : ∃ F2, Ext b F H F2 (upd H T (.tup [x, y])) ∧ Ok b F2 (upd H T (.tup [x, y])) B ∧ Itm K true F2 (upd H T (.tup [x, y])) (.ref T) (.tuple [dx, dy]) := by
  obtain ⟨x2, k2⟩ := Ext.newO (o := .tup [x, y]) k n
  exact ⟨_, x2, k2, .inr ⟨rfl, T, _, _, rfl, SqT.of upd_same, .cons rx (.cons ry .nil), rfl⟩⟩
theorem wk_zipL {b : Addr} {F : Hp} {a c : Addr} {vs ws : List V} {xs ys : List PyData} (h : F a = some (.lst vs)) (h2 : F c = some (.lst ws)) (r : RpL K F vs xs) (r2 : RpL K F ws ys) (z : xs.length ≤ lim) : WkS K true b F (Itz K a c) (zipD xs ys) := ⟨by rw [zipD_len]; omega, fun i F1 H1 B s k => by
  have hH : SqL K H1 a vs := SqL.of (k.same _ _ (s _ _ h))
  have hH2 : SqL K H1 c ws := SqL.of (k.same _ _ (s _ _ h2))
  refine ⟨fun d e => ?_, fun hl => ⟨vs, ws, hH, hH2, by rw [r.length, r2.length]; rw [zipD_len] at hl; omega⟩⟩
  obtain ⟨x, y, ex, ey, rfl⟩ := zipD_get e
  obtain ⟨v, ev, rv⟩ := r.get ex
  obtain ⟨w, ew, rw'⟩ := r2.get ey
  refine ⟨⟨vs, ws, v, w, hH, hH2, ev, ew⟩, fun u H2 ⟨T, v', w', e1, nT, e2, hx, hy⟩ => ?_⟩
  subst e1 e2
  cases (hx vs hH).symm.trans ev
  cases (hy ws hH2).symm.trans ew
  exact pair_new k nT (rv.mono s) (rw'.mono s)⟩
theorem wk_zipT {b : Addr} {F : Hp} {a c : Addr} {vs ws : List V} {xs ys : List PyData} (h : TupF K F a vs) (h2 : TupF K F c ws) (r : RpL K F vs xs) (r2 : RpL K F ws ys) (z : xs.length ≤ lim) : WkS K true b F (ItzT K a c) (zipD xs ys) := ⟨by rw [zipD_len]; omega, fun i F1 H1 B s k => by
  have hH : SqT K H1 a vs := ((h.mono s).mono k.same).sq
  have hH2 : SqT K H1 c ws := ((h2.mono s).mono k.same).sq
  refine ⟨fun d e => ?_, fun hl => ⟨vs, ws, hH, hH2, by rw [r.length, r2.length]; rw [zipD_len] at hl; omega⟩⟩
  obtain ⟨x, y, ex, ey, rfl⟩ := zipD_get e
  obtain ⟨v, ev, rv⟩ := r.get ex
  obtain ⟨w, ew, rw'⟩ := r2.get ey
  refine ⟨⟨vs, ws, v, w, hH, hH2, ev, ew⟩, fun u H2 ⟨T, v', w', e1, nT, e2, hx, hy⟩ => ?_⟩
  subst e1 e2
  cases (hx vs hH).symm.trans ev
  cases (hy ws hH2).symm.trans ew
  exact pair_new k nT (rv.mono s) (rw'.mono s)⟩
/-- zip of two lists, of two tuples (of one kind) -/
def iZipS (f g : EF) : LF := fun ρ B => (f ρ B).bind fun d B => (g ρ B).bind fun e B => match d, e with
  | .list xs, .list ys => if xs.length ≤ lim then .ok (zipD xs ys) B else .bad
  | .tuple xs, .tuple ys => if xs.length ≤ lim then .ok (zipD xs ys) B else .bad
  | _, _ => .bad
theorem z_zip {elts : List Expr} {kk : Nat} {tpos : Pos} (hm : X.mg "zip" = none) (ha : ZE X e f) (hc : ZE X c g) (hg : Gl X "zip" := by rfl) (hs1 : starEach [c] X.env = (false, eval c X.env) :: starEach [] X.env := by rfl) (hs : starEach [e, c] X.env = (false, eval e X.env) :: starEach [c] X.env := by rfl)
    (hpl : (backTo pos (starEach [c] X.env)).any (·.1) = false := by rfl) : ZIs X true (.Tuple elts kk tpos) (.Call (.Name "zip" p) [e, c] [] pos) (iZipS f g) :=
  (pi_zipA hg hm (pa_cons ha (pa_cons hc pa_nil hs1) hs) hs hpl).zimp fun σ H RR ⟨b, F, ρ, B, xs, B', k, lr, e, q⟩ => by
  obtain ⟨d, B1, e1, e⟩ := R.bind_ok e
  obtain ⟨d2, B2, e2, e⟩ := R.bind_ok e
  refine ev_step k lr e1 fun v F1 H1 x1 k1 l1 r1 => ev_step k1 l1 e2 fun w F2 H2 x2 k2 l2 r2 => ?_
  have r1 := r1.mono x2.fr
  cases d <;> cases d2 <;> first | (cases e; done) | skip
  · simp only at e
    split at e <;> first | (cases e; done) | skip
    rename_i z
    cases e
    cases r1 with
    | lst s r =>
      cases r2 with
      | lst s2 r2 => exact ⟨_, _, _, _, rfl, .inl ⟨SqL.of (k2.same _ _ s), SqL.of (k2.same _ _ s2), q _ F2 H2 (x1.trans x2) k2 (wk_zipL s s2 r r2 z)⟩⟩
  · simp only at e
    split at e <;> first | (cases e; done) | skip
    rename_i z
    cases e
    cases r1 with
    | tup s r =>
      cases r2 with
      | tup s2 r2 => exact ⟨_, _, _, _, rfl, .inr ⟨(s.mono k2.same).sq, (s2.mono k2.same).sq, q _ F2 H2 (x1.trans x2) k2 (wk_zipT s s2 r r2 z)⟩⟩
end
end Tp

set_option Elab.async false
set_option linter.all false
set_option maxRecDepth 100000
set_option maxHeartbeats 4000000
/-! Snd7: comprehensions, calls, statements, functions. -/
namespace Tp
open PySem PySem.Spec L2
/-- the tests of a clause -/
abbrev ZTs (X : Cx) (ifs : List Expr) (f : EF) : Prop := PTs X ifs (TTv X.K f)
section
variable {X : Cx} {K : PySem.W.Frag}
theorem _root_.L2.PTs.zimp {ifs : List Expr} {t t' : TT} (h : PTs X ifs t) (i : ∀ σ H Q, t' σ H Q → t σ H Q) : PTs X ifs t' := ⟨fun pins s σ H Q I q => h.run pins s σ H Q I (i _ _ _ q)⟩
theorem z_ts0 : ZTs X [] (eC (.bool true)) := pts_nil.zimp fun σ H Q ⟨b, F, ρ, B, k, lr, q⟩ => q F H .refl k
theorem z_ts1 {c : Expr} {f : EF} (h : ZT X c f) : ZTs X [c] f := pts_one h
theorem compF_ok {f : PyData → Bag → R (List PyData)} {x : PyData} {xs zs : List PyData} {B B' : Bag} (e : compF f (x :: xs) B = .ok zs B') : ∃ ys B1 rs, f x B = .ok ys B1 ∧ compF f xs B1 = .ok rs B' ∧ zs = ys ++ rs := by
  obtain ⟨ys, B1, e1, e⟩ := R.bind_ok (show (f x B).bind _ = _ from e)
  obtain ⟨rs, B2, e2, e⟩ := R.bind_ok e
  cases e
  exact ⟨ys, B1, rs, e1, e2, rfl⟩
theorem comp_core {wi : TI} {own : List Nat} {t : Tg} {src : LF} {c f : EF} {wk : Bool} (hw : ∀ σ H R, TIe K wk src σ H R → wi σ H R) (hok : t.okw wk = true) (ht : ∀ i ∈ t.slots, i ∈ own) {σ : L2.St} {H : Hp} {Q : VK} {b : Addr} {F : Hp} {ρ : Env} {B B' : Bag} {ys : List PyData} (k : Ok b F H B) (lr : LR K b F H ρ σ)
    (e : eComp own t src c f ρ B = .ok (.list ys) B') (q : ∀ D acc F2 H2, Ext b F H F2 H2 → Ok b F2 H2 B' → H D = none → D ≠ b → F2 D = none → H2 D = some (.lst acc) → RpL K F2 acc ys → Q (.ref D) H2) : tLc wi (gOf K t) (TTv K c) (TEv K f) own σ H Q := by
  obtain ⟨xs, B1, e1, e⟩ := R.bind_ok e
  obtain ⟨ys', B2, e2, e⟩ := R.bind_ok e
  cases e
  refine hw _ _ _ ⟨b, F, ρ, B, xs, B1, k, lr, e1, fun J F1 H1 x1 k1 w => ?_⟩
  obtain ⟨hz, wk⟩ := w
  intro D nD
  have nb : D ≠ b := fun z => by rw [z, k1.hb] at nD; cases nD
  have nF : F1 D = none := k1.same.free nD
  obtain ⟨x2, k2⟩ := Ext.newO (o := .lst []) k1 nD
  refine ⟨fun i m H2 => m = xs.length - i ∧ i ≤ xs.length ∧ ∃ F2 B2' acc ad rs, Ext b F1 H1 F2 H2 ∧ Ok b F2 H2 B2' ∧ F2 D = none ∧ H2 D = some (.lst acc) ∧ RpL K F2 acc ad ∧ acc.length ≤ i ∧
      compF (turn1 own t c f ρ) (xs.drop i) B2' = .ok rs B' ∧ ys = ad ++ rs, ⟨xs.length, by simp, Nat.zero_le _, F1, B1, [], [], ys, x2, k2, nF, upd_same, .nil, Nat.le_refl _, e2, rfl⟩, ?_⟩
  rintro i m H2 ⟨rfl, hi, F2, B3, acc, ad, rs, x3, k3, nD3, hD3, ra, hl, ec, ey⟩
  by_cases hlt : i < xs.length
  · refine .inr ?_
    have ex : xs[i]? = some xs[i] := List.getElem?_eq_getElem hlt
    obtain ⟨go, st⟩ := (wk i F2 H2 B3 x3 k3).1 _ ex
    rw [List.drop_eq_getElem_cons hlt] at ec
    obtain ⟨ys1, B4, rs1, ef, er, rfl⟩ := compF_ok ec
    refine ⟨go, fun H5 => ∃ F5 B5 acc5 ad5, Ext b F1 H1 F5 H5 ∧ Ok b F5 H5 B5 ∧ F5 D = none ∧ H5 D = some (.lst acc5) ∧ RpL K F5 acc5 ad5 ∧ acc5.length ≤ i + 1 ∧ compF (turn1 own t c f ρ) (xs.drop (i + 1)) B5 = .ok rs1 B' ∧ ys = ad5 ++ rs1,
      fun H5 ⟨F5, B5, acc5, ad5, a1, a2, a3, a4, a5, a6, a7, a8⟩ => ⟨_, by omega, rfl, hlt, F5, B5, acc5, ad5, rs1, a1, a2, a3, a4, a5, a6, a7, a8⟩, fun x H4 hy => ?_⟩
    obtain ⟨F4, x4, k4, r4⟩ := st x H4 hy
    have hD4 : H4 D = some (.lst acc) := x4.hp D _ nb hD3
    have nD4 : F4 D = none := x4.nw D nb nD3 (by rw [hD3]; exact Option.some_ne_none _)
    have lr4 : LR K b F4 H4 (wipeE ρ own) (L2.wipe σ own) := ((lr.ext x1).wipe own).ext (x3.trans x4)
    unfold turn1 at ef
    cases et : t.bnd xs[i] (wipeE ρ own) with
    | none => rw [et] at ef; cases ef
    | some ρ' =>
      rw [et] at ef
      obtain ⟨kd, B5, ec1, ef⟩ := R.bind_ok ef
      refine g_ok k4.same lr4 r4 hok et fun σ' l' hwp => ⟨?_, ?_⟩
      · have hid : ∀ (js : List Nat) (s : L2.St), L2.wipe (L2.wipe s own) own = L2.wipe s own := fun _ s => by
          have gen : ∀ js : List Nat, (∀ j ∈ js, j ∈ own) → L2.wipe (L2.wipe s js) own = L2.wipe s own := by
            intro js
            induction js with
            | nil => intro _; rfl
            | cons a r ih =>
              intro hj
              show L2.wipe ((L2.wipe s r).set a none) own = _
              rw [wipe_set (hj a (List.mem_cons_self ..)), ih fun j h => hj j (List.mem_cons_of_mem _ h)]
          exact gen own fun j h => h
        rw [hwp own ht]
        exact hid [] σ
      · cases kd <;> first | (cases ef; done) | skip
        rename_i kb
        refine tv_step k4 l' ec1 fun F6 H6 x6 k6 l6 => ?_
        have hD6 : H6 D = some (.lst acc) := x6.hp D _ nb hD4
        have nD6 : F6 D = none := x6.nw D nb nD4 (by rw [hD4]; exact Option.some_ne_none _)
        cases kb with
        | false =>
          cases ef
          exact iteF ⟨F6, _, acc, ad, ((x3.trans x4).trans x6), k6, nD6, hD6, (ra.mono x4.fr).mono x6.fr, by omega, er, ey⟩
        | true =>
          obtain ⟨dv, B7, ev, ef⟩ := R.bind_ok ef
          cases ef
          refine iteT (ev_step k6 l6 ev fun y F7 H7 x7 k7 l7 r7 => ?_)
          have hD7 : H7 D = some (.lst acc) := x7.hp D _ nb hD6
          have nD7 : F7 D = none := x7.nw D nb nD6 (by rw [hD6]; exact Option.some_ne_none _)
          refine ⟨acc, hD7, ?_, F7, _, acc ++ [y], ad ++ [dv], ⟨?_, fun a o na ha => ?_, ?_⟩, ⟨fun a o ha => ?_, k7.fb, ?_⟩, nD7, upd_same, ?_, by simp; omega, er, by rw [ey]; simp⟩
          · have : xs.length ≤ sizeLine := hz
            omega
          · exact ((x3.trans x4).trans (x6.trans x7)).fr
          · rw [upd_ne (ne_of_none ha nD)]
            exact ((x3.trans x4).trans (x6.trans x7)).hp a o na ha
          · exact ((x3.trans x4).trans (x6.trans x7)).nw
          · rw [upd_ne (ne_of_none ha nD7)]
            exact k7.same _ _ ha
          · rw [upd_ne nb.symm]
            exact k7.hb
          · exact (((ra.mono x4.fr).mono x6.fr).mono x7.fr).append (.cons r7 .nil)
  · have ei : i = xs.length := by omega
    subst ei
    refine .inl ⟨(wk xs.length F2 H2 B3 x3 k3).2 (Nat.le_refl _), ?_⟩
    rw [List.drop_length] at ec
    cases ec
    rw [List.append_nil] at ey
    subst ey
    refine q D acc F2 H2 (x1.trans x3) k3 ?_ nb nD3 hD3 ra
    cases qq : H D with
    | none => rfl
    | some o => rw [x1.hp D o nb qq] at nD; cases nD
/-- a new thing is from now on left as it is -/
theorem freeze {b : Addr} {F H F0 H0 : Hp} {B : Bag} {p : Addr} {o : HO} (k : Ok b F H B) (x : Ext b F0 H0 F H) (n0 : H0 p = none) (nb : p ≠ b) (nF : F p = none) (h : H p = some o) : Ext b F0 H0 (upd F p o) H ∧ Ok b (upd F p o) H B ∧ Same F (upd F p o) := by
  have sm : Same F (upd F p o) := fun a u ha => by rw [upd_ne (ne_of_none ha nF)]; exact ha
  refine ⟨⟨x.fr.trans sm, x.hp, fun a na h1 h2 => ?_⟩, ⟨fun a u ha => ?_, ?_, k.hb⟩, sm⟩
  · by_cases hd : a = p
    · subst hd; exact absurd n0 h2
    · rw [upd_ne hd]; exact x.nw a na h1 h2
  · by_cases hd : a = p
    · subst hd; rw [upd_same] at ha; cases ha; exact h
    · rw [upd_ne hd] at ha; exact k.same _ _ ha
  · rw [upd_ne nb.symm]; exact k.fb
theorem comp_shape {own : List Nat} {t : Tg} {src : LF} {c f : EF} {ρ : Env} {B B' : Bag} {d : PyData} (e : eComp own t src c f ρ B = .ok d B') : ∃ ys, d = .list ys := by
  obtain ⟨xs, B1, e1, e⟩ := R.bind_ok e
  obtain ⟨ys, B2, e2, e⟩ := R.bind_ok e
  cases e
  exact ⟨ys, rfl⟩
theorem comp_run {wi : TI} {own : List Nat} {t : Tg} {src : LF} {c f : EF} {wk : Bool} (hw : ∀ σ H R, TIe K wk src σ H R → wi σ H R) (hok : t.okw wk = true) (ht : ∀ i ∈ t.slots, i ∈ own) {σ : L2.St} {H : Hp} {Q : VK} (h : TEv K (eComp own t src c f) σ H Q) : tLc wi (gOf K t) (TTv K c) (TEv K f) own σ H Q := by
  obtain ⟨b, F, ρ, B, k, lr, q⟩ := h
  obtain ⟨d, B', e, q⟩ := q.ok
  obtain ⟨ys, rfl⟩ := comp_shape e
  refine comp_core hw hok ht k lr e fun D acc F2 H2 x k2 n nb nF hD ra => ?_
  obtain ⟨x2, k3, sm⟩ := freeze k2 x n nb nF hD
  exact q _ _ _ x2 k3 (.lst upd_same (ra.mono sm))
/-- [elt for t in src if c] -/
theorem z_comp {elt tg iter : Expr} {ifs : List Expr} {scope : Scope} {own : List (Str × Nat)} {pos : Pos} {t : Tg} {src : LF} {c f : EF} {wk : Bool} (hc : X.calm = true) (hN : X.N.Nodup) (hi : ZIe X wk tg iter src) (ok : BlkOk X.N X.env.scope scope own)
    (hg : ∀ (s : Shared) (H : Hp) (C : Addr) (cl : List (Str × Addr)) (fp : List Addr), ZG (X.blk s H scope (compEnvC scope cl C X.env) fp) tg t) (ht : ∀ (s : Shared) (H : Hp) (C : Addr) (cl : List (Str × Addr)) (fp : List Addr), ZTs (X.blk s H scope (compEnvC scope cl C X.env) fp) ifs c)
    (he : ∀ (s : Shared) (H : Hp) (C : Addr) (cl : List (Str × Addr)) (fp : List Addr), ZE (X.blk s H scope (compEnvC scope cl C X.env) fp) elt f) (hs : ∀ x, foldedSetIterable iter X.env x = pure x := by intro _; rfl)
    (hsl : ∀ i ∈ t.slots, i ∈ own.map (·.2) := by decide) (hok : t.okw wk = true := by rfl) : ZE X (.ListComp elt [⟨tg, iter, ifs, 0⟩] scope pos) (eComp (own.map (·.2)) t src c f) :=
  (pe_lc hc hN hi ok hg ht he hs).zimp fun σ H Q h => comp_run (fun _ _ _ z => z) hok hsl h
end
end Tp

set_option Elab.async false
set_option linter.all false
set_option maxRecDepth 100000
set_option maxHeartbeats 4000000
/-! Snd8: statements. -/
namespace Tp
open PySem PySem.Spec L2
/-- the state of a def: F0, H0 at its entry -/
structure SI (K : PySem.W.Frag) (b : Addr) (F0 H0 F H : Hp) (ρ : Env) (σ : L2.St) (B : Bag) : Prop where
  ok : Ok b F H B
  lr : LR K b F H ρ σ
  ext : Ext b F0 H0 F H
  fresh : ∀ (i : Nat) (s : Slot) (p : Addr), ρ[i]? = some s → s.own = true → σ[i]? = some (some (.ref p)) → H0 p = none
section
variable {K : PySem.W.Frag} {b : Addr} {F0 H0 F H F1 H1 : Hp} {ρ : Env} {σ : L2.St} {B B1 : Bag}
theorem SI.go (s : SI K b F0 H0 F H ρ σ B) (x : Ext b F H F1 H1) (k : Ok b F1 H1 B1) : SI K b F0 H0 F1 H1 ρ σ B1 := ⟨k, s.lr.ext x, s.ext.trans x, s.fresh⟩
theorem SI.set (s : SI K b F0 H0 F H ρ σ B) (i : Nat) {v : V} {d : PyData} (r : Rp K F v d) : SI K b F0 H0 F H (ρ.set i (.fz d)) (σ.set i (some v)) B := ⟨s.ok, s.lr.set i r, s.ext, fun j t p h1 h2 h3 => by
  by_cases hij : i = j
  · subst hij
    have hl : i < ρ.length := by have := (List.getElem?_eq_some_iff.mp h1).1; simpa using this
    rw [List.getElem?_set_self hl] at h1; cases h1; cases h2
  · rw [List.getElem?_set_ne hij] at h1 h3
    exact s.fresh j t p h1 h2 h3⟩
theorem SI.bnds : ∀ {is : List Nat} {vs : List V} {ds : List PyData} {ρ ρ' : Env} {σ : L2.St} {Q : L2.St → Hp → Prop}, SI K b F0 H0 F H ρ σ B → RpL K F vs ds → bindAll is ds ρ = some ρ' → (∀ σ', SI K b F0 H0 F H ρ' σ' B → Q σ' H) → gsOf is vs σ H Q
  | [], _, _, ρ, ρ', σ, Q, s, r, e, q => by
    cases r with
    | nil => cases e; exact ⟨rfl, q σ s⟩
    | cons _ _ => cases e
  | i :: is, _, _, ρ, ρ', σ, Q, s, r, e, q => by
    cases r with
    | nil => cases e
    | cons r1 r2 => exact ⟨_, _, rfl, SI.bnds (s.set i r1) r2 e q⟩
theorem bindAll_len : ∀ {is : List Nat} {ds : List PyData} {ρ ρ' : Env}, bindAll is ds ρ = some ρ' → is.length = ds.length
  | [], [], _, _, _ => rfl
  | [], _ :: _, _, _, e => by cases e
  | _ :: _, [], _, _, e => by cases e
  | _ :: is, _ :: ds, _, _, e => congrArg Nat.succ (bindAll_len (is := is) (ds := ds) e)
/-- a target takes a value -/
theorem SI.bnd {t : Tg} {v : V} {d : PyData} {ρ' : Env} {Q : L2.St → Hp → Prop} {w : Bool} (s : SI K b F0 H0 F H ρ σ B) (r : Itm K w F H v d) (hw : t.okw w = true) (e : t.bnd d ρ = some ρ') (q : ∀ σ', SI K b F0 H0 F H ρ' σ' B → Q σ' H) : gOf K t v σ H Q := by
  cases t with
  | one i => cases e; exact q _ (s.set i (r.one hw))
  | many is =>
    cases d <;> first | (cases e; done) | skip
    obtain ⟨a, xs, h1, h2, r⟩ := r.tup s.ok.same
    exact ⟨_, _, h1, h2, by rw [r.length]; exact (bindAll_len e).symm, s.bnds r e q⟩
theorem Tg.okf (t : Tg) : t.okw false = true := by cases t <;> rfl
end
abbrev SPost (K : PySem.W.Frag) (b : Addr) (F0 H0 Fs : Hp) (r : SO) (D : Ends) : Prop := match r with
  | .nx ρ B => ∀ F H σ, SI K b F0 H0 F H ρ σ B → Same Fs F → D.nx σ H
  | .ret d B => ∀ v F H, Ext b F0 H0 F H → Ok b F H B → Rp K F v d → D.rt v H
  | _ => False
def TSv (K : PySem.W.Frag) (s : SF) : TS := fun D σ H => ∃ b F0 H0 F ρ B, SI K b F0 H0 F H ρ σ B ∧ SPost K b F0 H0 F (s ρ B) D
abbrev ZS (X : Cx) (st : Stmt) (s : SF) : Prop := PS X st (TSv X.K s)
abbrev ZSs (X : Cx) (sts : List Stmt) (s : SF) : Prop := PSs X sts (TSv X.K s)
theorem SPost.up {K : PySem.W.Frag} {b : Addr} {F0 H0 Fs Ft : Hp} {r : SO} {D : Ends} (h : SPost K b F0 H0 Fs r D) (x : Same Fs Ft) : SPost K b F0 H0 Ft r D := by
  cases r with
  | nx ρ B => exact fun F H σ s y => h F H σ s (x.trans y)
  | ret d B => exact h
  | err _ _ _ => exact h
  | bad => exact h
theorem toS_ok {K : PySem.W.Frag} {b : Addr} {F0 H0 Fs : Hp} {r : R PyData} {k : PyData → Bag → SO} {D : Ends} (h : SPost K b F0 H0 Fs (toS r k) D) : ∃ d B, r = .ok d B ∧ SPost K b F0 H0 Fs (k d B) D := by
  cases r with
  | ok d B => exact ⟨d, B, rfl, h⟩
  | err _ _ _ => exact h.elim
  | bad => exact h.elim
section
variable {X : Cx} {K : PySem.W.Frag} {st : Stmt} {rest : List Stmt} {s t : SF} {e c tg iter : Expr} {f g : EF} {l : LF} {pos : Pos}
theorem z_sn : ZSs X [] sNil := pss_nil.zimp fun D σ H ⟨b, F0, H0, F, ρ, B, si, q⟩ => q F H σ si (Same.refl F)
theorem z_ss (h1 : ZS X st s) (h2 : ZSs X rest t) : ZSs X (st :: rest) (sSeq s t) := (pss_cons h1 h2).zimp fun D σ H ⟨b, F0, H0, F, ρ, B, si, q⟩ => by
  refine ⟨b, F0, H0, F, ρ, B, si, ?_⟩
  unfold sSeq at q
  cases hr : s ρ B with
  | nx ρ' B' => rw [hr] at q; exact fun F1 H1 σ1 s1 y => ⟨b, F0, H0, F1, ρ', B', s1, q.up y⟩
  | ret d B' => rw [hr] at q; exact q
  | err _ _ _ => rw [hr] at q; exact q
  | bad => rw [hr] at q; exact q
theorem z_s1 (h1 : ZS X st s) : ZSs X [st] s := pss_one h1
theorem z_ret (he : ZE X e f) : ZS X (.Return (some e) pos) (sRet f) := (ps_ret he).zimp fun D σ H ⟨b, F0, H0, F, ρ, B, si, q⟩ => by
  obtain ⟨d, B1, e1, q⟩ := toS_ok q
  exact ev_step si.ok si.lr e1 fun v F1 H1 x k l r => q v F1 H1 (si.ext.trans x) k r
theorem z_retN : ZS X (.Return none pos) sRetN := ps_retN.zimp fun D σ H ⟨b, F0, H0, F, ρ, B, si, q⟩ => q _ F H si.ext si.ok .non
theorem z_pass : ZS X (.Pass pos) sNil := ps_pass.zimp fun D σ H ⟨b, F0, H0, F, ρ, B, si, q⟩ => q F H σ si (Same.refl F)
/-- what is never come to: a raise -/
theorem z_never : ZS X st sFail := ps_never.zimp fun D σ H ⟨b, F0, H0, F, ρ, B, si, q⟩ => q.elim
theorem z_exp (he : ZE X e f) (hs : swapsWith e none pos.line X.env = pure false := by rfl) : ZS X (.Expr e pos) (sExp f) := (ps_expr he hs).zimp fun D σ H ⟨b, F0, H0, F, ρ, B, si, q⟩ => by
  obtain ⟨d, B1, e1, q⟩ := toS_ok q
  exact ev_step si.ok si.lr e1 fun v F1 H1 x k l r => q F1 H1 σ (si.go x k) x.fr
/-- target = value -/
theorem z_asg {tt : Tg} (he : ZE X e f) (hg : ZG X tg tt) (hs : swapsWithSole [tg] e pos.line X.env = pure false := by rfl) (hw : swappedStores [tg] e X.env = pure none := by rfl)
    (h1 : (assignEach [tg] X.env).map (·.2) = [assign tg X.env] := by rfl) : ZS X (.Assign [tg] e pos) (sAsg tt f) := (ps_asg he hg hs hw h1).zimp fun D σ H ⟨b, F0, H0, F, ρ, B, si, q⟩ => by
  obtain ⟨d, B1, e1, q⟩ := toS_ok q
  refine ev_step si.ok si.lr e1 fun v F1 H1 x k l r => ?_
  cases hb : tt.bnd d ρ with
  | none => rw [hb] at q; exact q.elim
  | some ρ' =>
    rw [hb] at q
    exact (si.go x k).bnd (.inl r) tt.okf hb fun σ' s' => q F1 H1 σ' s' x.fr
/-- name = [comprehension] on one line -/
theorem z_asgC {i : Nat} {y : Str} {py : Pos} {elt : Expr} {ifs : List Expr} {scope : Scope} {own : List (Str × Nat)} {spos : Pos} {tt : Tg} {src : LF} {cf : EF} {wk : Bool} (hc : X.calm = true) (hN : X.N.Nodup) (hi : ZIe X wk tg iter src) (ok : BlkOk X.N X.env.scope scope own)
    (hg : ∀ (s : Shared) (H : Hp) (C : Addr) (cl : List (Str × Addr)) (fp : List Addr), ZG (X.blk s H scope (compEnvC scope cl C X.env) fp) tg tt) (ht : ∀ (s : Shared) (H : Hp) (C : Addr) (cl : List (Str × Addr)) (fp : List Addr), ZTs (X.blk s H scope (compEnvC scope cl C X.env) fp) ifs cf)
    (he : ∀ (s : Shared) (H : Hp) (C : Addr) (cl : List (Str × Addr)) (fp : List Addr), ZE (X.blk s H scope (compEnvC scope cl C X.env) fp) elt f) (hy : X.N[i]? = some y := by rfl) (hyl : X.env.scope.names.lookup y = some .local := by rfl)
    (hsw : swapsWith (.ListComp elt [⟨tg, iter, ifs, 0⟩] scope pos) (some (.Name y py)) spos.line X.env = pure true := by exact sw_true rfl rfl rfl (by decide +kernel)) (hs : ∀ x, foldedSetIterable iter X.env x = pure x := by intro _; rfl)
    (hsl : ∀ i ∈ tt.slots, i ∈ own.map (·.2) := by decide) (hok : tt.okw wk = true := by rfl) : ZS X (.Assign [.Name y py] (.ListComp elt [⟨tg, iter, ifs, 0⟩] scope pos) spos) (sAsg (.one i) (eComp (own.map (·.2)) tt src cf f)) :=
  (ps_setLc hc hN hy hyl hsw hi ok hg ht he hs).zimp fun D σ H ⟨b, F0, H0, F, ρ, B, si, q⟩ => by
  obtain ⟨d, B1, e1, q⟩ := toS_ok q
  exact comp_run (fun _ _ _ z => z) hok hsl (ev_step si.ok si.lr e1 fun v F1 H1 x k l r => q F1 H1 _ ((si.go x k).set i r) x.fr)
theorem z_ifs {a d : List Stmt} (hc : ZT X c f) (ha : ZSs X a s) (hd : ZSs X d t) : ZS X (.If c a d pos) (sIf f s t) := (ps_if hc ha hd).zimp fun D σ H ⟨b, F0, H0, F, ρ, B, si, q⟩ => by
  obtain ⟨z, B1, e1, q⟩ := toS_ok q
  cases z <;> first | exact q.elim | skip
  rename_i kb
  refine tv_step si.ok si.lr e1 fun F1 H1 x k l => ?_
  cases kb with
  | true => exact iteT ⟨b, F0, H0, F1, ρ, _, si.go x k, q.up x.fr⟩
  | false => exact iteF ⟨b, F0, H0, F1, ρ, _, si.go x k, q.up x.fr⟩
theorem z_for {wk : Bool} {tt : Tg} {body : List Stmt} {src : LF} (hp : PassesOwn (model X.prog X.w) X.A X.env X.xe) (hc : X.calm = true) (hi : ZIs X wk tg iter src) (hg : ZG X tg tt) (hb : ZSs X body s) (hs : ∀ x, foldedSetIterable iter X.env x = pure x := by intro _; rfl) (hok : tt.okw wk = true := by rfl) :
    ZS X (.For tg iter body [] pos) (sFor tt src s) := (ps_for hp hc hi hg hb hs).zimp fun D σ H ⟨b, F0, H0, F, ρ, B, si, q⟩ => by
  unfold sFor at q
  cases hx : src ρ B with
  | err _ _ _ => rw [hx] at q; exact q.elim
  | bad => rw [hx] at q; exact q.elim
  | ok xs B1 =>
    rw [hx] at q
    refine ⟨b, F, ρ, B, xs, B1, si.ok, si.lr, hx, fun J F1 H1 x1 k1 w => ?_⟩
    obtain ⟨hz, wk⟩ := w
    refine ⟨fun i m σ2 H2 => m = xs.length - i ∧ i ≤ xs.length ∧ ∃ F2 ρ2 B2, SI X.K b F0 H0 F2 H2 ρ2 σ2 B2 ∧ Same F1 F2 ∧ SPost X.K b F0 H0 F1 (forF tt s (xs.drop i) ρ2 B2) D,
      ⟨xs.length, by simp, Nat.zero_le _, F1, ρ, B1, si.go x1 k1, Same.refl _, q.up x1.fr⟩, ?_⟩
    rintro i m σ2 H2 ⟨rfl, hi, F2, ρ2, B2, s2, sm, q2⟩
    by_cases hlt : i < xs.length
    · refine .inr ?_
      obtain ⟨go, yl⟩ := (wk i F2 H2 B2 sm s2.ok).1 _ (List.getElem?_eq_getElem hlt)
      rw [List.drop_eq_getElem_cons hlt] at q2
      refine ⟨go, fun σ5 H5 => ∃ F5 ρ5 B5, SI X.K b F0 H0 F5 H5 ρ5 σ5 B5 ∧ Same F1 F5 ∧ SPost X.K b F0 H0 F1 (forF tt s (xs.drop (i + 1)) ρ5 B5) D, fun σ5 H5 ⟨F5, ρ5, B5, a1, a2, a3⟩ => ⟨_, by omega, rfl, hlt, F5, ρ5, B5, a1, a2, a3⟩, fun v H3 hy => ?_⟩
      obtain ⟨F3, x3, k3, r3⟩ := yl v H3 hy
      unfold forF at q2
      cases et : tt.bnd xs[i] ρ2 with
      | none => rw [et] at q2; exact q2.elim
      | some ρ3 =>
        rw [et] at q2
        refine (s2.go x3 k3).bnd r3 hok et fun σ4 s4 => ?_
        -- the body, from F3 on
        refine ⟨b, F0, H0, F3, ρ3, B2, s4, ?_⟩
        simp only at q2
        cases hb : s ρ3 B2 with
        | nx ρ5 B5 =>
          rw [hb] at q2
          exact fun F5 H5 σ5 s5 y => ⟨F5, ρ5, B5, s5, (sm.trans x3.fr).trans y, q2⟩
        | ret d B5 => rw [hb] at q2; exact q2
        | err _ _ _ => rw [hb] at q2; exact q2.elim
        | bad => rw [hb] at q2; exact q2.elim
    · have ei : i = xs.length := by omega
      subst ei
      refine .inl ⟨(wk _ F2 H2 B2 sm s2.ok).2 (Nat.le_refl _), ?_⟩
      rw [List.drop_length] at q2
      exact q2 F2 H2 σ2 s2 sm
end
end Tp

set_option Elab.async false
set_option linter.all false
set_option maxRecDepth 100000
set_option maxHeartbeats 4000000
/-! Snd9: while, defs, calls. -/
namespace Tp
open PySem PySem.Spec L2
section
variable {X : Cx} {K : PySem.W.Frag} {st : Stmt} {rest : List Stmt} {s t : SF} {e c tg iter : Expr} {f g : EF} {l : LF} {pos p : Pos}
theorem z_whl {body : List Stmt} (hp : PassesOwn (model X.prog X.w) X.A X.env X.xe) (hc : ZT X c f) (hb : ZSs X body s) : ZS X (.While c body [] pos) (sWhl f s) := (ps_while hp hc hb).zimp fun D σ H ⟨b, F0, H0, F, ρ, B, si, q⟩ => by
  refine ⟨fun m σ2 H2 => ∃ F2 ρ2 B2, SI X.K b F0 H0 F2 H2 ρ2 σ2 B2 ∧ Same F F2 ∧ SPost X.K b F0 H0 F (whlF f s m ρ2 B2) D, ⟨fuel, F, ρ, B, si, Same.refl F, q⟩, ?_⟩
  rintro m σ2 H2 ⟨F2, ρ2, B2, s2, sm, q2⟩
  cases m with
  | zero => exact q2.elim
  | succ m =>
    obtain ⟨z, B3, e3, q3⟩ := toS_ok (show SPost X.K b F0 H0 F (toS (f ρ2 B2) _) D from q2)
    cases z <;> first | exact q3.elim | skip
    rename_i kb
    refine tv_step s2.ok s2.lr e3 fun F4 H4 x4 k4 l4 => ?_
    cases kb with
    | false => exact iteF (q3 F4 H4 σ2 (s2.go x4 k4) (sm.trans x4.fr))
    | true =>
      refine iteT ⟨fun σ5 H5 => ∃ F5 ρ5 B5, SI X.K b F0 H0 F5 H5 ρ5 σ5 B5 ∧ Same F F5 ∧ SPost X.K b F0 H0 F (whlF f s m ρ5 B5) D, fun σ5 H5 h5 => ⟨m, Nat.lt_succ_self m, h5⟩, b, F0, H0, F4, ρ2, B3, s2.go x4 k4, ?_⟩
      simp only at q3
      cases hr : s ρ2 B3 with
      | nx ρ5 B5 =>
        rw [hr] at q3
        exact fun F5 H5 σ5 s5 y => ⟨F5, ρ5, B5, s5, (sm.trans x4.fr).trans y, q3⟩
      | ret d B5 => rw [hr] at q3; exact q3
      | err _ _ _ => rw [hr] at q3; exact q3.elim
      | bad => rw [hr] at q3; exact q3.elim
end
/-! ### defs -/
/-- a def's promise, asked for where no repr is running -/
structure FnG (P : Program) (w : World) (K : PySem.W.Frag) (mg : Str → Option Value) (base : Heap) (k : Nat) (f : Addr) (fd : FuncData) (ps : List Str) (sp : Sp) : Prop where
  len : ∀ vs H Q E, sp vs H Q E → vs.length = ps.length
  run : ∀ (A : Around) (outer : List PySem.Env) (s : Shared) (H : Hp) (args : Args) (us : List Value) (vs : List V) (Q : VK) (E : XK), A.guards = some [] → Room k A → Env0 P w K mg base A outer s H →
    BindsTo s fd args (ps.zip us) → Vals vs us → sp vs H Q E → codeAny (model P w) A (.call (.ref f) args) (CR CX0 outer P w H s Q E) s
def bagV (bag : Bool) (b : Addr) : List V := if bag then [.ref b] else []
/-- what a def of the core promises -/
def spF (K : PySem.W.Frag) (bag : Bool) (ar : Nat) (sem : FSem) : Sp := fun vs H Q _ => ∃ b F B ws ds, vs = bagV bag b ++ ws ∧ Ok b F H B ∧ RpL K F ws ds ∧ ds.length = ar ∧ PostE K b F H (sem ds B) Q
structure Fx (P : Program) (w : World) (K : PySem.W.Frag) (mg : Str → Option Value) (base : Heap) (x : Str) (k : Nat) (bag : Bool) (ar : Nat) (ps : List Str) (sem : FSem) (f : Addr) (fd : FuncData) : Prop where
  fn : FnG P w K mg base k f fd ps (spF K bag ar sem)
  at_ : mg x = some (.ref f)
  kp : PySem.W.keepIn K (.ref f) = true
  bd : ∀ us : List Value, us.length = ps.length → bindArgs fd ⟨us, []⟩ = pure (ps.zip us)
  lk : ∃ oc od osl, K.lookup f = some ⟨oc, od, .func fd, osl⟩
/-- the def x keeps its promise -/
def FxE (P : Program) (w : World) (K : PySem.W.Frag) (mg : Str → Option Value) (base : Heap) (x : Str) (k : Nat) (bag : Bool) (ar : Nat) (ps : List Str) (sem : FSem) : Prop := ∃ f fd, Fx P w K mg base x k bag ar ps sem f fd
section
variable {P : Program} {w : World} {K : PySem.W.Frag} {mg : Str → Option Value} {base : Heap} {k j : Nat} {f : Addr} {fd : FuncData} {ps : List Str} {sp : Sp} {x : Str} {bag : Bool} {ar : Nat} {sem : FSem}
theorem FnG.mono (F : FnG P w K mg base j f fd ps sp) (h : j ≤ k) : FnG P w K mg base k f fd ps sp := ⟨F.len, fun A outer s H args us vs Q E g hr => F.run A outer s H args us vs Q E g (hr.mono h)⟩
end
section
variable {X : Cx} {k : Nat} {f : Addr} {fd : FuncData} {ps : List Str} {sp : Sp} {x : Str} {p pos pb : Pos} {e : Expr} {es : List Expr} {t : TA}
/-- a callee runs, from a body -/
theorem run_g {pins : List (Addr × Obj)} {σ : L2.St} {H : Hp} {s : Shared} {Q : VK} {us : List Value} {vs : List V} {args : Args} (F : FnG X.prog X.w X.K X.mg X.base k f fd ps sp) (hg : X.A.guards = some []) (hr : Room k X.A) (I : Inv X pins σ H s) (r : Vals vs us)
    (hb : BindsTo s fd args (ps.zip us)) (h : sp vs H Q E0) : codeAny (model X.prog X.w) X.A (.call (.ref f) args) (fun r s' => ∃ u, r = .ok (.ret u) ∧ EP X pins σ Q u s') s := by
  refine codeAny_mono (F.run X.A X.stack s H args us vs Q E0 hg hr I.env0 hb r h) ?_
  intro r s' hq
  cases r with
  | error z => exact False.elim hq
  | ok fl =>
    cases fl <;> first | exact False.elim hq | skip
    exact ⟨_, rfl, I.after hq⟩
theorem call_g {pins : List (Addr × Obj)} {σ : L2.St} {H : Hp} {s : Shared} {Q : VK} {us : List Value} {vs : List V} (F : FnG X.prog X.w X.K X.mg X.base k f fd ps sp) (hg : X.A.guards = some []) (hr : Room k X.A) (I : Inv X pins σ H s) (r : Vals vs us)
    (hb : BindsTo s fd ⟨us, []⟩ (ps.zip us)) (h : sp vs H Q E0) : wpAny (model X.prog X.w) X.A (call (.ref f) us) (EP X pins σ Q) X.xe s := by
  refine wpAny_call (codeAny_mono (run_g F hg hr I r hb h) ?_)
  rintro r s' ⟨u, rfl, h⟩
  exact h
/-- f(e, ..) -/
theorem pe_g (F : FnG X.prog X.w X.K X.mg X.base k f fd ps sp) (hgd : X.A.guards = some []) (hr : Room k X.A) (hg : Gl X x) (hm : X.mg x = some (.ref f)) (hk : PySem.W.keepIn X.K (.ref f) = true) (bd : ∀ us : List Value, us.length = ps.length → bindArgs fd ⟨us, []⟩ = pure (ps.zip us))
    (ha : PA X (e :: es) t) (hdb : (x == ("__debug__" : Str)) = false) (he : starEach (e :: es) X.env = (false, eval e X.env) :: starEach es X.env) (hpl : (backTo pos (starEach es X.env)).any (·.1) = false) : PE X (.Call (.Name x p) (e :: es) [] pos) (tCall sp [] E0 t) := by
  constructor
  intro pins s σ H Q I h
  refine wpAny_Call_Name_kw (ld_glob I hg hm ?_ hdb)
  refine PySem.W.callWith_K (h₀ := X.base) I.ok.mod.kin hk ?_ he hpl
  refine thn (ha.run pos pins s σ H _ I h) ?_
  rintro us s1 ⟨vs, H1, I1, r, q⟩
  rw [List.append_nil] at q
  refine ⟨I1.kIn, call_g F hgd hr I1 r (.of_eq (bd us ?_)) q⟩
  rw [← r.length]
  exact F.len _ _ _ _ q
theorem pe_g0 (F : FnG X.prog X.w X.K X.mg X.base k f fd ps sp) (hgd : X.A.guards = some []) (hr : Room k X.A) (hg : Gl X x) (hm : X.mg x = some (.ref f)) (hk : PySem.W.keepIn X.K (.ref f) = true) (bd : ∀ us : List Value, us.length = ps.length → bindArgs fd ⟨us, []⟩ = pure (ps.zip us))
    (hdb : (x == ("__debug__" : Str)) = false) : PE X (.Call (.Name x p) [] [] pos) (tCall sp [] E0 tNil) := by
  constructor
  intro pins s σ H Q I h
  refine wpAny_Call_Name_kw (ld_glob I hg hm ?_ hdb)
  have q : sp [] H Q E0 := h
  exact PySem.W.callWith_K0 I.kIn hk (call_g (us := []) F hgd hr I .nil (.of_eq (bd [] (F.len _ _ _ _ q))) q)
/-- the room that a body has -/
structure Gd (X : Cx) (k : Nat) : Prop where
  gs : X.A.guards = some []
  rm : Room k X.A
  calm : X.calm = true
theorem Gd.blk {k : Nat} (G : Gd X k) {s : Shared} {H : Hp} {scope : Scope} {ce : PySem.Env} {fp : List Addr} : Gd (X.blk s H scope ce fp) k := ⟨G.gs, G.rm, G.calm⟩
variable {kk ar n : Nat} {sem : FSem} {l : LF}
theorem z_call (G : Gd X kk) (Fe : FxE X.prog X.w X.K X.mg X.base x k false ar ps sem) (ha : ZA X (e :: es) l n) (hk : k ≤ kk := by decide) (hn : n = ar := by rfl) (hg : Gl X x := by rfl) (hdb : (x == ("__debug__" : Str)) = false := by decide)
    (he : starEach (e :: es) X.env = (false, eval e X.env) :: starEach es X.env := by rfl) (hpl : (backTo pos (starEach es X.env)).any (·.1) = false := by rfl) : ZE X (.Call (.Name x p) (e :: es) [] pos) (eCall sem l) := by
  obtain ⟨f, fd, F⟩ := Fe
  refine (pe_g (F.fn.mono hk) G.gs G.rm hg F.at_ F.kp F.bd ha.pa hdb he hpl).zimp ?_
  rintro σ H Q ⟨b, F1, ρ, B, k, lr, q⟩
  obtain ⟨d, B', e, q⟩ := q.ok
  obtain ⟨ds, B1, e1, e2⟩ := R.bind_ok e
  refine lv_step k lr e1 fun vs F2 H2 x2 k2 l2 r2 => ⟨b, F2, B1, vs, ds, by rw [List.append_nil]; rfl, k2, r2, (ha.len _ _ _ _ e1).trans hn, ?_⟩
  rw [e2]
  exact fun v F3 H3 x3 k3 r3 => q v F3 H3 (x2.trans x3) k3 r3
/-- f(bag, e, ..) -/
theorem z_callB {i : Nat} {y : Str} (G : Gd X kk) (Fe : FxE X.prog X.w X.K X.mg X.base x k true ar ps sem) (ha : ZA X es l n) (hk : k ≤ kk := by decide) (hn : n = ar := by rfl) (hN : X.N[i]? = some y := by rfl)
    (hv : Vis X.env.scope y := by first | exact Or.inl rfl | exact Or.inr (Or.inl rfl) | exact Or.inr (Or.inr rfl)) (hg : Gl X x := by rfl) (hdb : (x == ("__debug__" : Str)) = false := by decide) (hd : (y == ("__debug__" : Str)) = false := by decide) (hcd : (y == ("__classdict__" : Str)) = false := by decide)
    (he : starEach (.Name y pb :: es) X.env = (false, eval (.Name y pb) X.env) :: starEach es X.env := by rfl) (hpl : (backTo pos (starEach es X.env)).any (·.1) = false := by rfl) : ZE X (.Call (.Name x p) (.Name y pb :: es) [] pos) (eCallB i sem l) := by
  obtain ⟨f, fd, F⟩ := Fe
  refine (pe_g (F.fn.mono hk) G.gs G.rm hg F.at_ F.kp F.bd (pa_cons (pe_var hN hv hd hcd) ha.pa he) hdb he hpl).zimp ?_
  rintro σ H Q ⟨b, F1, ρ, B, k, lr, q⟩
  unfold eCallB at q
  cases hs : ρ[i]? with
  | none => rw [hs] at q; exact q.elim
  | some sl =>
    cases sl with
    | bg =>
      rw [hs] at q
      obtain ⟨d, B', e, q⟩ := q.ok
      obtain ⟨ds, B1, e1, e2⟩ := R.bind_ok e
      have sb := lr.at_ i _ hs
      refine ⟨.ref b, sb, lv_step k lr e1 fun vs F2 H2 x2 k2 l2 r2 => ⟨b, F2, B1, vs, ds, by rw [List.append_nil]; rfl, k2, r2, (ha.len _ _ _ _ e1).trans hn, ?_⟩⟩
      rw [e2]
      exact fun v F3 H3 x3 k3 r3 => q v F3 H3 (x2.trans x3) k3 r3
    | _ => rw [hs] at q; exact q.elim
end
end Tp

set_option Elab.async false
set_option linter.all false
set_option maxRecDepth 100000
set_option maxHeartbeats 4000000
/-! Snd10: a def of the text by its core. -/
namespace Tp
open PySem PySem.Spec L2
theorem lr_start {K : PySem.W.Frag} {b : Addr} {F H : Hp} {bag : Bool} {N : List Str} {n : Nat} {ws : List V} {ds : List PyData} (hN : N.length = n) (r : RpL K F ws ds) (hl : (bagV bag b ++ ws).length ≤ n) : LR K b F H (entry bag n ds) (L2.start N (bagV bag b ++ ws)) := by
  have frz : ∀ {ws : List V} {ds : List PyData} (m : Nat), RpL K F ws ds → LR K b F H (ds.map Slot.fz ++ List.replicate m .no) (ws.map some ++ List.replicate m none) := by
    intro ws ds m r
    refine ⟨by simp [r.length], fun i s h => ?_, fun i j s t p hij h1 h2 o1 o2 => ?_⟩
    · by_cases hi : i < ds.length
      · rw [List.getElem?_append_left (by simpa using hi), List.getElem?_map] at h
        rw [List.getElem?_append_left (by simpa [r.length] using hi), List.getElem?_map]
        cases e : ds[i]? with
        | none => rw [e] at h; cases h
        | some d =>
          rw [e] at h
          cases h
          obtain ⟨v, ev, rv⟩ := r.get e
          exact ⟨v, by rw [ev]; rfl, rv⟩
      · rw [List.getElem?_append_right (by simpa using hi), List.getElem?_replicate] at h
        split at h
        · cases h; trivial
        · cases h
    · by_cases hi : i < ds.length
      · rw [List.getElem?_append_left (by simpa using hi), List.getElem?_map] at h1
        cases e : ds[i]? with
        | none => rw [e] at h1; cases h1
        | some d => rw [e] at h1; cases h1; cases o1
      · rw [List.getElem?_append_right (by simpa using hi), List.getElem?_replicate] at h1
        split at h1
        · cases h1; cases o1
        · cases h1
  cases bag with
  | false =>
    have e1 : entry false n ds = ds.map Slot.fz ++ List.replicate (n - ds.length) .no := by simp [entry]
    have e2 : L2.start N (bagV false b ++ ws) = ws.map some ++ List.replicate (n - ds.length) none := by simp [L2.start, bagV, hN, r.length]
    rw [e1, e2]
    exact frz _ r
  | true =>
    have e1 : entry true n ds = .bg :: (ds.map Slot.fz ++ List.replicate (n - (1 + ds.length)) .no) := by simp [entry]
    have e2 : L2.start N (bagV true b ++ ws) = some (.ref b) :: (ws.map some ++ List.replicate (n - (1 + ds.length)) none) := by simp [L2.start, bagV, hN, r.length, Nat.add_comm]
    rw [e1, e2]
    have l := frz (n - (1 + ds.length)) r
    refine ⟨by simpa using l.len, fun i s h => ?_, fun i j s t p hij h1 h2 o1 o2 h3 => ?_⟩
    · cases i with
      | zero => simp at h; subst h; rfl
      | succ i => exact l.at_ i s (by simpa using h)
    · cases i with
      | zero => simp at h1; subst h1; cases o1
      | succ i =>
        cases j with
        | zero => simp at h2; subst h2; cases o2
        | succ j => exact l.ap i j s t p (fun e => hij (by rw [e])) (by simpa using h1) (by simpa using h2) o1 o2 (by simpa using h3)
section
variable {P : Program} {w : World} {K : PySem.W.Frag} {mg : Str → Option Value} {base : Heap}
/-- a def by its body's walk -/
theorem fng {k : Nat} {f : Addr} {fd : FuncData} {name qual : Str} {params : Arguments} {body : List Stmt} {scope : Scope} {N ps : List Str} {sp : Sp} (F : FunD K name qual params body scope [] [] f fd) (S : FnScope N ps scope) (len : ∀ vs H Q E, sp vs H Q E → vs.length = ps.length)
    (hbody : ∀ (cdv : Value) (A : Around) (outer : List PySem.Env) (s : Shared) (H : Hp) (vs : List V) (Q : VK) (E : XK), A.guards = some [] → Room k (A.deeper (PyProof.Rows.envOfC qual scope s.heap.objs.size f cdv)) → sp vs H Q E →
      ∃ t, PSs (cxOf CX0 P w K mg base N qual scope f cdv A outer s H E).nox body t ∧ t { nx := fun _ H' => Q .non H', rt := Q } (L2.start N vs) H) : FnG P w K mg base (k + 1) f fd ps sp := by
  obtain ⟨oc, od, dV, kV, doc, pm, an, cdv, ct, osl, rfl, lk, hcd, _, _⟩ := F.ex
  refine ⟨len, fun A outer s H args us vs Q E gs hr e0 hb r hsp => ?_⟩
  have KX : K.In s.heap := e0.mod.kin.keeps fun b o e => (e0.bs b o e).1
  have lim : s.heap.NoLimit := e0.mod.nolimit.keeps fun b o e => (e0.bs b o e).1
  have kinds : ∀ y ∈ ps.zip us, scope.names.lookup y.1 = some .local ∨ (scope.names.lookup y.1 = some .cell ∧ ((cellsFrom (s.heap.objs.size + 1) scope.names []).lookup y.1).isSome = true) := by
    rintro ⟨z, v⟩ hy
    rcases S.par z (List.of_mem_zip hy).1 with q | q
    · exact .inl q
    · exact .inr ⟨q, PySem.W.cellsFrom_some _ _ _ (.inl q)⟩
  refine codeAny_call_function hr.depth (KX _ _ lk) rfl S.co S.gen rfl (PySem.W.codeRec_of KX hcd) (hb _ _ _ _ ?_)
  refine wpAny_newFunctionEnv_cells S.kind kinds ?_
  intro env he s1 x
  subst he
  refine ⟨lim.keeps x.toInCall.keep, codeAny_func ?_⟩
  obtain ⟨t, ht, hq⟩ := hbody cdv A outer s H vs Q E gs (hr.deeper _) hsp
  have I := inv_start (CX := CX0) (E := E) S hr.hd e0 (len _ _ _ _ hsp) r x
  refine wpAny_mono (ht.nox.run [] s1 (L2.start N vs) H _ I hq) ?_ fun _ _ z => z
  intro fl s' hs
  have fin : ∀ {σ' : L2.St} {H' : Hp} {v : V} {u : Value}, Inv (cxOf CX0 P w K mg base N qual scope f cdv A outer s H E) [] σ' H' s' → RelV v u → Q v H' → CE outer P w H s Q u s' := fun J rv q => ⟨_, _, J.os, J.bare, J.base, J.hok, rv, q⟩
  cases fl with
  | next =>
    obtain ⟨σ', H', J, q⟩ := hs
    exact fin (v := V.non) (u := Value.none) J rfl q
  | ret u =>
    obtain ⟨v, σ', H', J, rv, q⟩ := hs
    exact fin J rv q
  | brk => exact hs.elim fun _ h => h.elim fun _ h => h.2.elim
  | cont => exact hs.elim fun _ h => h.elim fun _ h => h.2.elim
/-- the context of a def's body -/
abbrev cxG (P : Program) (w : World) (K : PySem.W.Frag) (mg : Str → Option Value) (base : Heap) (N : List Str) (x : Str) (scope : Scope) (f : Addr) (cdv : Value) (A : Around) (outer : List PySem.Env) (s : Shared) (H : Hp) (E : XK) : Cx := (cxOf CX0 P w K mg base N x scope f cdv A outer s H E).nox
theorem z_def {k n ar : Nat} {bag : Bool} {f : Addr} {fd : FuncData} {x : Str} {params : Arguments} {body : List Stmt} {scope : Scope} {N ps : List Str} {s : SF} (F : FunD K x x params body scope [] [] f fd) (S : FnScope N ps scope) (hm : mg x = some (.ref f))
    (hb : ∀ (kV doc pm : Value) (an : Option Addr) (cdv ct : Value) (us : List Value), us.length = ps.length → bindArgs (PySem.W.fnOf x x params body scope .none kV doc pm an cdv ct) ⟨us, []⟩ = pure (ps.zip us))
    (hN : N.length = n) (hp : (if bag then 1 else 0) + ar = ps.length) (hbody : ∀ (cdv : Value) (A : Around) (outer : List PySem.Env) (s0 : Shared) (H : Hp) (E : XK), Gd (cxG P w K mg base N x scope f cdv A outer s0 H E) k → ZSs (cxG P w K mg base N x scope f cdv A outer s0 H E) body s) :
    FxE P w K mg base x (k + 1) bag ar ps (fn bag n ar s) := by
  refine ⟨f, fd, ⟨fng F S ?_ ?_, hm, F.kp, ?_, ?_⟩⟩
  · rintro vs H Q E ⟨b, F1, B, ws, ds, rfl, ok, r, hl, q⟩
    rw [List.length_append, r.length, hl, ← hp]
    cases bag <;> rfl
  · rintro cdv A outer s0 H vs Q E gs hr ⟨b, F1, B, ws, ds, rfl, ok, r, hl, q⟩
    have G : Gd (cxG P w K mg base N x scope f cdv A outer s0 H E) k := ⟨gs, hr, rfl⟩
    refine ⟨_, hbody cdv A outer s0 H E G, b, F1, H, F1, entry bag n ds, B, ⟨ok, ?_, .refl, ?_⟩, ?_⟩
    · refine lr_start hN r ?_
      rw [List.length_append, r.length, hl]
      have h1 : (bagV bag b).length = (if bag then 1 else 0) := by cases bag <;> rfl
      rw [h1, hp, ← hN]
      have := congrArg List.length S.pre
      rw [List.length_take] at this
      omega
    · intro i sl p h1 h2
      unfold entry at h1
      have hm := List.mem_of_getElem? h1
      rw [List.mem_append, List.mem_append] at hm
      rcases hm with (hm | hm) | hm
      · cases bag <;> simp at hm
        subst hm; cases h2
      · obtain ⟨d, _, rfl⟩ := List.mem_map.mp hm
        cases h2
      · rw [(List.mem_replicate.mp hm).2] at h2
        cases h2
    · unfold fn at q
      rw [if_pos hl] at q
      cases hr : s (entry bag n ds) B with
      | nx ρ B' =>
        rw [hr] at q
        exact fun F2 H2 σ si _ => q _ F2 H2 si.ext si.ok .non
      | ret d B' =>
        rw [hr] at q
        exact q
      | err _ _ _ => rw [hr] at q; exact q.elim
      | bad => rw [hr] at q; exact q.elim
  · obtain ⟨oc, od, dV, kV, doc, pm, an, cdv, ct, osl, rfl, lk, hcd, hD, hK⟩ := F.ex
    rcases hD with ⟨_, rfl⟩ | ⟨e, _⟩
    · exact hb kV doc pm an cdv ct
    · exact absurd rfl e
  · obtain ⟨oc, od, dV, kV, doc, pm, an, cdv, ct, osl, rfl, lk, hcd, hD, hK⟩ := F.ex
    exact ⟨_, _, _, lk⟩
end
end Tp

set_option Elab.async false
set_option linter.all false
set_option maxRecDepth 100000
set_option maxHeartbeats 4000000
/-! Snd11: a slot's own list or dict; several names at once. -/
namespace Tp
open PySem PySem.Spec L2
/-- how a value comes: 0 it stands still, 1 a list of its own, 2 a dict of its own. Hs: the heap ahead -/
def ElOk (K : PySem.W.Frag) (b : Addr) (Hs F H : Hp) : Nat → V → PyData → Prop
  | 0, v, d => Rp K F v d
  | 1, v, d => ∃ p vs l, d = .list l ∧ v = .ref p ∧ Hs p = none ∧ p ≠ b ∧ F p = none ∧ H p = some (.lst vs) ∧ RpL K F vs l
  | _, v, d => ∃ (p : Addr) (kvs : List (List Key × V)) (l : List (List Key × PyData)), d = encD l ∧ v = .ref p ∧ Hs p = none ∧ p ≠ b ∧ F p = none ∧ H p = some (.dT kvs) ∧ kvs.map (·.1) = l.map (·.1) ∧ RpL K F (kvs.map (·.2)) (l.map (·.2))
def keyOf : PyData → Option Key
  | .int i => some (.inl i)
  | .str x => some (.inr x)
  | _ => none
def keysOf : List PyData → Option (List Key)
  | [] => some []
  | d :: ds => (keyOf d).bind fun k => (keysOf ds).map (k :: ·)
def decD : List (PyData × PyData) → Option (List (List Key × PyData))
  | [] => some []
  | (.tuple ks, v) :: r => (keysOf ks).bind fun k => (decD r).map ((k, v) :: ·)
  | _ :: _ => none
theorem keysOf_enc : ∀ ks : List Key, keysOf (ks.map kD) = some ks
  | [] => rfl
  | k :: ks => by
    cases k <;> simp [keysOf, kD, keyOf, keysOf_enc ks]
theorem decD_enc : ∀ l : List (List Key × PyData), decD (l.map fun p => (.tuple (p.1.map kD), p.2)) = some l
  | [] => rfl
  | p :: l => by simp [decD, keysOf_enc, decD_enc l]
def slotM : Nat → PyData → Option Slot
  | 0, d => some (.fz d)
  | 1, .list l => some (.ow l)
  | 2, .dict l => (decD l).map Slot.od
  | _, _ => none
section
variable {K : PySem.W.Frag} {b : Addr} {Hs F0 H0 F H F1 H1 : Hp} {ρ : Env} {σ : L2.St} {B B1 : Bag} {m : Nat} {v : V} {d : PyData}
theorem ElOk.ext (x : Ext b F H F1 H1) : ∀ {m : Nat}, ElOk K b Hs F H m v d → ElOk K b Hs F1 H1 m v d
  | 0, h => Rp.mono x.fr h
  | 1, ⟨p, vs, l, h1, h2, h3, h4, h5, h6, h7⟩ => ⟨p, vs, l, h1, h2, h3, h4, x.nw p h4 h5 (by rw [h6]; exact Option.some_ne_none _), x.hp p _ h4 h6, h7.mono x.fr⟩
  | m + 2, ⟨p, vs, l, h1, h2, h3, h4, h5, h6, h7, h8⟩ => ⟨p, vs, l, h1, h2, h3, h4, x.nw p h4 h5 (by rw [h6]; exact Option.some_ne_none _), x.hp p _ h4 h6, h7, h8.mono x.fr⟩
/-- a slot gets a thing of its own -/
theorem SI.setW (s : SI K b F0 H0 F H ρ σ B) (i : Nat) {p : Addr} {sl : Slot} (so : SlotOk K b F H (some (some (.ref p))) sl) (h0 : H0 p = none) (hd : ∀ (j : Nat) (t : Slot) (q : Addr), j ≠ i → ρ[j]? = some t → t.own = true → σ[j]? = some (some (.ref q)) → q ≠ p) :
    SI K b F0 H0 F H (ρ.set i sl) (σ.set i (some (.ref p))) B := by
  have get : ∀ {j : Nat} {t : Slot}, (ρ.set i sl)[j]? = some t → (j = i ∧ t = sl ∧ (σ.set i (some (.ref p)))[j]? = some (some (.ref p))) ∨ (j ≠ i ∧ ρ[j]? = some t ∧ (σ.set i (some (.ref p)))[j]? = σ[j]?) := by
    intro j t h
    by_cases hij : i = j
    · subst hij
      have hl : i < ρ.length := by have := (List.getElem?_eq_some_iff.mp h).1; simpa using this
      rw [List.getElem?_set_self hl] at h
      cases h
      exact .inl ⟨rfl, rfl, List.getElem?_set_self (by rw [← s.lr.len]; exact hl)⟩
    · rw [List.getElem?_set_ne hij] at h
      exact .inr ⟨fun e => hij e.symm, h, List.getElem?_set_ne hij⟩
  refine ⟨s.ok, ⟨by simp [s.lr.len], fun j t h => ?_, fun j j' t t' q hjj h1 h2 o1 o2 e1 e2 => ?_⟩, s.ext, fun j t q h o e => ?_⟩
  · rcases get h with ⟨rfl, rfl, e⟩ | ⟨n, h, e⟩
    · rw [e]; exact so
    · rw [e]; exact s.lr.at_ j t h
  · rcases get h1 with ⟨rfl, rfl, f1⟩ | ⟨n1, g1, f1⟩
    · rcases get h2 with ⟨rfl, rfl, f2⟩ | ⟨n2, g2, f2⟩
      · exact hjj rfl
      · rw [f1] at e1; rw [f2] at e2
        cases e1
        exact hd j' t' _ n2 g2 o2 e2 rfl
    · rcases get h2 with ⟨rfl, rfl, f2⟩ | ⟨n2, g2, f2⟩
      · rw [f1] at e1; rw [f2] at e2
        cases e2
        exact hd j t _ n1 g1 o1 e1 rfl
      · rw [f1] at e1; rw [f2] at e2
        exact s.lr.ap j j' t t' q hjj g1 g2 o1 o2 e1 e2
  · rcases get h with ⟨rfl, rfl, f⟩ | ⟨n, g, f⟩
    · rw [f] at e; cases e; exact h0
    · rw [f] at e; exact s.fresh j t q g o e
/-- what a slot owns is there -/
theorem SI.there (s : SI K b F0 H0 F H ρ σ B) {j : Nat} {t : Slot} {q : Addr} (h : ρ[j]? = some t) (o : t.own = true) (e : σ[j]? = some (some (.ref q))) : q ≠ b ∧ F q = none ∧ H q ≠ none := by
  have so := s.lr.at_ j t h
  cases t <;> first | (cases o; done) | skip
  · obtain ⟨p, vs, h1, h2, h3, h4, h5⟩ := so
    rw [e] at h1; cases h1
    exact ⟨h2, h3, by rw [h4]; exact Option.some_ne_none _⟩
  · obtain ⟨p, kvs, h1, h2, h3, h4, h5, h6⟩ := so
    rw [e] at h1; cases h1
    exact ⟨h2, h3, by rw [h4]; exact Option.some_ne_none _⟩
/-- a value to a slot, as it comes; Hs is at least what the slots' things stand in -/
theorem SI.setM (s : SI K b F0 H0 F H ρ σ B) (i : Nat) {sl : Slot} (el : ElOk K b Hs F H m v d) (hsl : slotM m d = some sl) (h0 : ∀ a o, a ≠ b → H0 a = some o → Hs a = some o) (hs : ∀ (j : Nat) (t : Slot) (q : Addr), j ≠ i → ρ[j]? = some t → t.own = true → σ[j]? = some (some (.ref q)) → Hs q ≠ none) :
    SI K b F0 H0 F H (ρ.set i sl) (σ.set i (some v)) B := by
  have hz : ∀ {p : Addr}, p ≠ b → Hs p = none → H0 p = none := fun {p} nb n => by
    cases q : H0 p with
    | none => rfl
    | some o => rw [h0 p o nb q] at n; cases n
  rcases m with _ | _ | m
  · cases hsl
    exact s.set i el
  · obtain ⟨p, vs, l, rfl, rfl, h3, h4, h5, h6, h7⟩ := el
    cases hsl
    exact s.setW i ⟨p, vs, rfl, h4, h5, h6, h7⟩ (hz h4 h3) fun j t q n h o e z => hs j t q n h o e (by rw [z]; exact h3)
  · obtain ⟨p, kvs, l, rfl, rfl, h3, h4, h5, h6, h7, h8⟩ := el
    rcases m with _ | m
    · have hd : slotM 2 (encD l) = some (.od l) := by simp only [encD, slotM, decD_enc]; rfl
      rw [show 0 + 1 + 1 = 2 from rfl, hd] at hsl
      cases hsl
      exact s.setW i ⟨p, kvs, rfl, h4, h5, h6, h7, h8⟩ (hz h4 h3) fun j t q n h o e z => hs j t q n h o e (by rw [z]; exact h3)
    · cases hsl
end
abbrev PostM (K : PySem.W.Frag) (b : Addr) (F H : Hp) (m : Nat) (r : R PyData) (Q : VK) : Prop := match r with
  | .ok d B' => ∀ v F' H', Ext b F H F' H' → Ok b F' H' B' → ElOk K b H F' H' m v d → Q v H'
  | _ => False
def TEm (K : PySem.W.Frag) (m : Nat) (f : EF) : TE := fun σ H Q => ∃ b F ρ B, Ok b F H B ∧ LR K b F H ρ σ ∧ PostM K b F H m (f ρ B) Q
abbrev ZM (X : Cx) (m : Nat) (e : Expr) (f : EF) : Prop := PE X e (TEm X.K m f)
section
variable {X : Cx} {e a c : Expr} {es : List Expr} {f g h : EF} {l : LF} {n i j : Nat} {pos p : Pos} {x y : Str}
theorem z_m0 (h : ZE X e f) : ZM X 0 e f := h.zimp fun _ _ _ q => q
theorem PostM.ok {K : PySem.W.Frag} {b : Addr} {F H : Hp} {m : Nat} {r : R PyData} {Q : VK} (p : PostM K b F H m r Q) : ∃ d B', r = .ok d B' ∧ ∀ v F' H', Ext b F H F' H' → Ok b F' H' B' → ElOk K b H F' H' m v d → Q v H' := by
  cases r with
  | ok d B' => exact ⟨d, B', rfl, p⟩
  | err _ _ _ => exact p.elim
  | bad => exact p.elim
theorem em_step {K : PySem.W.Frag} {m : Nat} {P : VK} {b : Addr} {F H : Hp} {ρ : Env} {σ : L2.St} {B : Bag} (k : Ok b F H B) (l : LR K b F H ρ σ) {d : PyData} {B1 : Bag} (e : f ρ B = .ok d B1) (h : ∀ v F1 H1, Ext b F H F1 H1 → Ok b F1 H1 B1 → LR K b F1 H1 ρ σ → ElOk K b H F1 H1 m v d → P v H1) : TEm K m f σ H P :=
  ⟨b, F, ρ, B, k, l, by rw [e]; exact fun v F1 H1 x k1 r => h v F1 H1 x k1 (l.ext x) r⟩
/-- a display, for a slot of its own -/
theorem z_lstO (hl : ZA X es l n) (hn : n ≤ 1000 := by decide) : ZM X 1 (.List es pos) (eLst l) := (pe_lst hl.pa).zimp fun σ H Q ⟨b, F, ρ, B, k, lr, q⟩ => by
  obtain ⟨d, B', e, q⟩ := q.ok
  obtain ⟨ds, B1, e1, e⟩ := R.bind_ok e
  cases e
  refine lv_step k lr e1 fun vs F1 H1 x1 k1 l1 r1 => ⟨by rw [r1.length, hl.len _ _ _ _ e1]; exact small_n hn, fun p np => ?_⟩
  obtain ⟨x2, k2⟩ := Ext.newO (o := .lst vs) k1 np
  have nb : p ≠ b := fun z => by rw [z, k1.hb] at np; cases np
  refine q _ _ _ (x1.trans x2) k2 ⟨p, vs, ds, rfl, rfl, ?_, nb, k1.same.free np, upd_same, r1⟩
  cases qq : H p with
  | none => rfl
  | some o => rw [x1.hp p o nb qq] at np; cases np
theorem z_compO {tg iter elt : Expr} {ifs : List Expr} {scope : Scope} {own : List (Str × Nat)} {t : Tg} {src : LF} {cf : EF} {wk : Bool} (hc : X.calm = true) (hN : X.N.Nodup) (hi : ZIe X wk tg iter src) (ok : BlkOk X.N X.env.scope scope own)
    (hg : ∀ (s : Shared) (H : Hp) (C : Addr) (cl : List (Str × Addr)) (fp : List Addr), ZG (X.blk s H scope (compEnvC scope cl C X.env) fp) tg t) (ht : ∀ (s : Shared) (H : Hp) (C : Addr) (cl : List (Str × Addr)) (fp : List Addr), ZTs (X.blk s H scope (compEnvC scope cl C X.env) fp) ifs cf)
    (he : ∀ (s : Shared) (H : Hp) (C : Addr) (cl : List (Str × Addr)) (fp : List Addr), ZE (X.blk s H scope (compEnvC scope cl C X.env) fp) elt f) (hs : ∀ x, foldedSetIterable iter X.env x = pure x := by intro _; rfl)
    (hsl : ∀ i ∈ t.slots, i ∈ own.map (·.2) := by decide) (hok : t.okw wk = true := by rfl) : ZM X 1 (.ListComp elt [⟨tg, iter, ifs, 0⟩] scope pos) (eComp (own.map (·.2)) t src cf f) :=
  (pe_lc hc hN hi ok hg ht he hs).zimp fun σ H Q ⟨b, F, ρ, B, k, lr, q⟩ => by
  obtain ⟨d, B', e, q⟩ := q.ok
  obtain ⟨ys, rfl⟩ := comp_shape e
  exact comp_core (fun _ _ _ z => z) hok hsl k lr e fun D acc F2 H2 x k2 n nb nF hD ra => q _ F2 H2 x k2 ⟨D, acc, ys, rfl, rfl, n, nb, nF, hD, ra⟩
/-- list(..), for a slot of its own -/
theorem z_listO (hm : X.mg "list" = none) (ha : ZB X a f) (hg : Gl X "list" := by rfl) (hs : starEach [a] X.env = (false, eval a X.env) :: starEach [] X.env := by rfl) : ZM X 1 (.Call (.Name "list" p) [a] [] pos) (e1 dList f) :=
  (pe_callTy call_list_of hg hm (by decide +kernel) (pa_cons ha pa_nil hs) (by decide) (by decide) hs rfl).zimp fun σ H Q ⟨b, F, ρ, B, k, lr, q⟩ => by
  obtain ⟨d, B', e, q⟩ := q.ok
  obtain ⟨x, B1, e1, e⟩ := R.bind_ok e
  obtain ⟨e3, rfl⟩ := oR_ok e
  refine eb_step k lr e1 fun v F1 H1 x1 k1 l1 r1 => ?_
  have fin : ∀ {vs : List V} {ds : List PyData}, RpL X.K F1 vs ds → d = .list ds → ∀ l, H1 l = none → Q (.ref l) (upd H1 l (.lst vs)) := fun {vs ds} r e l nl => by
    subst e
    obtain ⟨x2, k2⟩ := Ext.newO (o := .lst vs) k1 nl
    have nb : l ≠ b := fun z => by rw [z, k1.hb] at nl; cases nl
    refine q _ _ _ (x1.trans x2) k2 ⟨l, vs, ds, rfl, rfl, ?_, nb, k1.same.free nl, upd_same, r⟩
    cases qq : H l with
    | none => rfl
    | some o => rw [x1.hp l o nb qq] at nl; cases nl
  cases x <;> first | (cases e3; done) | skip
  · cases e3
    obtain ⟨p, vs, rfl, h1, r2⟩ := r1.listH k1.same
    exact ⟨p, vs, rfl, .inl (SqL.of h1), fin r2 rfl⟩
  · cases e3
    obtain ⟨p, vs, rfl, f1, h1, r2⟩ := r1.tuple k1.same
    exact ⟨p, vs, rfl, .inr h1, fin r2 rfl⟩
end
/-- one name, a value as it comes -/
def sAsgM (i m : Nat) (f : EF) : SF := fun ρ B => toS (f ρ B) fun d B => match slotM m d with
  | some sl => .nx (ρ.set i sl) B
  | none => .bad
/-- two names at once -/
def sPar (i j m m' : Nat) (f g : EF) : SF := fun ρ B => toS (f ρ B) fun d B => toS (g ρ B) fun e B => match slotM m d, slotM m' e with
  | some s, some t => .nx ((ρ.set i s).set j t) B
  | _, _ => .bad
def sPar3 (i j k m m' m2 : Nat) (f g h : EF) : SF := fun ρ B => toS (f ρ B) fun d B => toS (g ρ B) fun e B => toS (h ρ B) fun u B => match slotM m d, slotM m' e, slotM m2 u with
  | some s, some t, some r => .nx (((ρ.set i s).set j t).set k r) B
  | _, _, _ => .bad
section
variable {X : Cx} {e a c u : Expr} {es : List Expr} {f g h : EF} {l : LF} {n i j k m m' m2 : Nat} {pos p px py pz pt : Pos} {kt k2 : Nat} {pt2 : Pos} {x y z : Str}
theorem z_asgM (he : ZM X m e f) (hN : X.N.Nodup) (hi : X.N[i]? = some x := by rfl) (hx : Loc X.env.scope x := by first | exact Or.inl rfl | exact Or.inr rfl) (hs : swapsWith e (some (.Name x px)) pos.line X.env = pure false := by rfl)
    (hf : X.fn x = true ∨ X.env.scope.names.lookup x = some .local := by first | exact .inl rfl | exact .inr rfl | assumption) : ZS X (.Assign [.Name x px] e pos) (sAsgM i m f) := (ps_set hN hi hx he hs hf).zimp fun D σ H ⟨b, F0, H0, F, ρ, B, si, q⟩ => by
  obtain ⟨d, B1, e1, q⟩ := toS_ok q
  refine em_step si.ok si.lr e1 fun v F1 H1 x k l r => ?_
  cases hb : slotM m d with
  | none => rw [hb] at q; exact q.elim
  | some sl =>
    rw [hb] at q
    exact q F1 H1 _ ((si.go x k).setM i r hb si.ext.hp fun j t q _ h o e => (si.there h o e).2.2) x.fr
theorem z_par (hc : X.calm = true) (hN : X.N.Nodup) (ha : ZM X m a f) (hd : ZM X m' c g) (hi : X.N[i]? = some x := by rfl) (hj : X.N[j]? = some y := by rfl) (hij : i ≠ j := by decide) (hx : X.env.scope.names.lookup x = some .local := by rfl) (hy : X.env.scope.names.lookup y = some .local := by rfl)
    (hw : swappedStores [.Tuple [.Name x px, .Name y py] kt pt] (.Tuple [a, c] k2 pt2) X.env = pure (some [x, y]) := by rfl) (hs : swapsWithSole [.Tuple [.Name x px, .Name y py] kt pt] (.Tuple [a, c] k2 pt2) pos.line X.env = pure false := by rfl)
    (hs1 : starEach [c] X.env = (false, eval c X.env) :: starEach [] X.env := by rfl) (hs2 : starEach [a, c] X.env = (false, eval a X.env) :: starEach [c] X.env := by rfl) :
    ZS X (.Assign [.Tuple [.Name x px, .Name y py] kt pt] (.Tuple [a, c] k2 pt2) pos) (sPar i j m m' f g) := (ps_par hc hN hi hj hij hx hy (pa_cons ha (pa_cons hd pa_nil hs1) hs2) hw hs).zimp fun D σ H ⟨b, F0, H0, F, ρ, B, si, q⟩ => by
  obtain ⟨d, B1, e1, q⟩ := toS_ok q
  obtain ⟨d2, B2, e2, q⟩ := toS_ok q
  cases hb : slotM m d with
  | none => rw [hb] at q; exact q.elim
  | some s =>
    cases hb2 : slotM m' d2 with
    | none => rw [hb, hb2] at q; exact q.elim
    | some t =>
      rw [hb, hb2] at q
      refine em_step si.ok si.lr e1 fun v F1 H1 x1 k1 l1 r1 => em_step k1 l1 e2 fun w F2 H2 x2 k2 l2 r2 => ⟨v, w, rfl, ?_⟩
      have s1 := ((si.go x1 k1).go x2 k2).setM i (r1.ext x2) hb si.ext.hp fun j t q _ h o e => (si.there h o e).2.2
      refine q F2 H2 _ (s1.setM j r2 hb2 (fun a o na ha => x1.hp a o na (si.ext.hp a o na ha)) fun j' t' q' hne h o e' => ?_) (x1.fr.trans x2.fr)
      by_cases hji : i = j'
      · subst hji
        have hl : i < ρ.length := by have := (List.getElem?_eq_some_iff.mp h).1; simpa using this
        rw [List.getElem?_set_self hl] at h
        rw [List.getElem?_set_self (by rw [← si.lr.len]; exact hl)] at e'
        cases h
        cases e'
        rcases m with _ | _ | m
        · cases hb; cases o
        · obtain ⟨p, vs, l, rfl, e3, h3, h4, h5, h6, h7⟩ := r1
          cases e3; rw [h6]; exact Option.some_ne_none _
        · obtain ⟨p, kvs, vs, rfl, e3, h3, h4, h5, h6, h7, h8⟩ := r1
          cases e3; rw [h6]; exact Option.some_ne_none _
      · rw [List.getElem?_set_ne hji] at h e'
        have := si.there h o e'
        cases qq : H q' with
        | none => exact absurd qq this.2.2
        | some ob => rw [x1.hp q' ob this.1 qq]; exact Option.some_ne_none _
end
end Tp

set_option Elab.async false
set_option linter.all false
set_option maxRecDepth 100000
set_option maxHeartbeats 4000000
/-! Snd12: a slot's own list changes. -/
namespace Tp
open PySem PySem.Spec L2
/-- x.append(e) -/
def sApp (i : Nat) (f : EF) : SF := fun ρ B => toS (f ρ B) fun d B => match ρ[i]? with
  | some (.ow l) => if l.length < lim then .nx (ρ.set i (.ow (l ++ [d]))) B else .bad
  | _ => .bad
def sExt (i : Nat) (f : EF) : SF := fun ρ B => toS (f ρ B) fun d B => match ρ[i]?, d with
  | some (.ow l), .list m => if l.length + m.length ≤ lim then .nx (ρ.set i (.ow (l ++ m))) B else .bad
  | _, _ => .bad
/-- t = x.pop() -/
def sPopL (t : Tg) (i : Nat) : SF := fun ρ B => match ρ[i]? with
  | some (.ow l) => (match l[l.length - 1]? with
    | some d => (match t.bnd d (ρ.set i (.ow l.dropLast)) with
      | some ρ' => .nx ρ' B
      | none => .bad)
    | none => .bad)
  | _ => .bad
/-- found = found + (x.pop(e),) -/
def sPopCat (i j : Nat) (f : EF) : SF := fun ρ B => match ρ[i]? with
  | some (.fz (.tuple t)) => toS (f ρ B) fun d B => (match ρ[j]?, d with
    | some (.ow l), .int k => if smallI k && decide (t.length < 1000) then (match seqIndex? k l.length with
      | some n => (match l[n]? with
        | some e => .nx ((ρ.set j (.ow (l.eraseIdx n))).set i (.fz (.tuple (t ++ [e])))) B
        | none => .bad)
      | none => .bad) else .bad
    | _, _ => .bad)
  | _ => .bad
section
variable {K : PySem.W.Frag} {b : Addr} {F0 H0 F H : Hp} {ρ : Env} {σ : L2.St} {B : Bag}
theorem RpL.dropLast {K : PySem.W.Frag} {F : Hp} {vs : List V} {ds : List PyData} (r : RpL K F vs ds) : RpL K F vs.dropLast ds.dropLast := by
  rw [List.dropLast_eq_take, List.dropLast_eq_take, r.length]
  exact r.take _
/-- a slot's list is another one -/
theorem SI.mut (s : SI K b F0 H0 F H ρ σ B) {i : Nat} {p : Addr} {l l' : List PyData} {vs' : List V} (h : ρ[i]? = some (.ow l)) (e : σ[i]? = some (some (.ref p))) (r : RpL K F vs' l') : SI K b F0 H0 F (upd H p (.lst vs')) (ρ.set i (.ow l')) σ B := by
  obtain ⟨nb, nF, nH⟩ := s.there h rfl e
  have n0 := s.fresh i _ p h rfl e
  have hi : i < ρ.length := (List.getElem?_eq_some_iff.mp h).1
  have nof : ∀ {a : Addr} {o : HO}, F a = some o → a ≠ p := fun ha z => by rw [z, nF] at ha; cases ha
  have get : ∀ {j : Nat} {t : Slot}, (ρ.set i (.ow l'))[j]? = some t → (j = i ∧ t = .ow l') ∨ (j ≠ i ∧ ρ[j]? = some t) := fun {j t} hj => by
    by_cases hij : i = j
    · subst hij
      rw [List.getElem?_set_self hi] at hj
      cases hj
      exact .inl ⟨rfl, rfl⟩
    · rw [List.getElem?_set_ne hij] at hj
      exact .inr ⟨fun z => hij z.symm, hj⟩
  refine ⟨⟨fun a o ha => ?_, s.ok.fb, ?_⟩, ⟨by simp [s.lr.len], fun j t hj => ?_, fun j j' t t' q hjj h1 h2 o1 o2 => ?_⟩, ⟨s.ext.fr, fun a o na ha => ?_, s.ext.nw⟩, fun j t q h1 o1 => ?_⟩
  · rw [upd_ne (nof ha)]; exact s.ok.same _ _ ha
  · rw [upd_ne nb.symm]; exact s.ok.hb
  · rcases get hj with ⟨rfl, rfl⟩ | ⟨nj, hj⟩
    · exact ⟨p, vs', e, nb, nF, upd_same, r⟩
    · have so := s.lr.at_ j t hj
      cases t with
      | no => trivial
      | fz d => exact so
      | bg => exact so
      | ow m =>
        obtain ⟨q, ws, e1, e2, e3, e4, e5⟩ := so
        have nq : q ≠ p := fun z => by
          subst z
          exact s.lr.ap i j _ _ q (fun z => nj z.symm) h hj rfl rfl e e1
        exact ⟨q, ws, e1, e2, e3, by rw [upd_ne nq]; exact e4, e5⟩
      | od m =>
        obtain ⟨q, ws, e1, e2, e3, e4, e5⟩ := so
        have nq : q ≠ p := fun z => by
          subst z
          exact s.lr.ap i j _ _ q (fun z => nj z.symm) h hj rfl rfl e e1
        exact ⟨q, ws, e1, e2, e3, by rw [upd_ne nq]; exact e4, e5⟩
  · rcases get h1 with ⟨rfl, rfl⟩ | ⟨n1, g1⟩
    · rcases get h2 with ⟨rfl, rfl⟩ | ⟨n2, g2⟩
      · exact absurd rfl hjj
      · exact s.lr.ap j j' _ _ q hjj h g2 rfl o2
    · rcases get h2 with ⟨rfl, rfl⟩ | ⟨n2, g2⟩
      · exact s.lr.ap j j' _ _ q hjj g1 h o1 rfl
      · exact s.lr.ap j j' _ _ q hjj g1 g2 o1 o2
  · by_cases hd : a = p
    · subst hd; rw [n0] at ha; cases ha
    · rw [upd_ne hd]; exact s.ext.hp a o na ha
  · rcases get h1 with ⟨rfl, rfl⟩ | ⟨n1, g1⟩
    · exact s.fresh j _ q h rfl
    · exact s.fresh j _ q g1 o1
end
section
variable {K : PySem.W.Frag} {b : Addr} {F0 H0 F H : Hp} {ρ : Env} {σ : L2.St} {B : Bag}
/-- a slot's list is left as it is from now on; the slot is forgotten -/
theorem SI.hand (s : SI K b F0 H0 F H ρ σ B) {j : Nat} {sl : Slot} {p : Addr} {o : HO} (h : ρ[j]? = some sl) (e : σ[j]? = some (some (.ref p))) (hH : H p = some o) (hs : sl.own = true := by rfl) : Same F (upd F p o) ∧ SI K b F0 H0 (upd F p o) H (ρ.set j .no) σ B := by
  obtain ⟨nb, nF, nH⟩ := s.there h hs e
  obtain ⟨x1, k1, sm⟩ := freeze s.ok s.ext (s.fresh j _ p h hs e) nb nF hH
  have hl : j < ρ.length := (List.getElem?_eq_some_iff.mp h).1
  have get : ∀ {i : Nat} {t : Slot}, (ρ.set j .no)[i]? = some t → (i = j ∧ t = .no) ∨ (i ≠ j ∧ ρ[i]? = some t) := fun {i t} hi => by
    by_cases hij : j = i
    · subst hij
      rw [List.getElem?_set_self hl] at hi
      cases hi
      exact .inl ⟨rfl, rfl⟩
    · rw [List.getElem?_set_ne hij] at hi
      exact .inr ⟨fun z => hij z.symm, hi⟩
  refine ⟨sm, k1, ⟨by simp [s.lr.len], fun i t hi => ?_, fun i i' t t' q hii h1 h2 o1 o2 => ?_⟩, x1, fun i t q h1 o1 => ?_⟩
  · rcases get hi with ⟨rfl, rfl⟩ | ⟨n, hi⟩
    · trivial
    · have so := s.lr.at_ i t hi
      cases t with
      | no => trivial
      | fz d =>
        obtain ⟨v, e1, r⟩ := so
        exact ⟨v, e1, r.mono sm⟩
      | bg => exact so
      | ow m =>
        obtain ⟨q, ws, e1, e2, e3, e4, e5⟩ := so
        have nq : q ≠ p := fun z => by
          subst z
          exact s.lr.ap j i _ _ q (fun z => n z.symm) h hi hs rfl e e1
        exact ⟨q, ws, e1, e2, by rw [upd_ne nq]; exact e3, e4, e5.mono sm⟩
      | od m =>
        obtain ⟨q, ws, e1, e2, e3, e4, e5, e6⟩ := so
        have nq : q ≠ p := fun z => by
          subst z
          exact s.lr.ap j i _ _ q (fun z => n z.symm) h hi hs rfl e e1
        exact ⟨q, ws, e1, e2, by rw [upd_ne nq]; exact e3, e4, e5, e6.mono sm⟩
  · rcases get h1 with ⟨rfl, rfl⟩ | ⟨n1, g1⟩
    · cases o1
    · rcases get h2 with ⟨rfl, rfl⟩ | ⟨n2, g2⟩
      · cases o2
      · exact s.lr.ap i i' _ _ q hii g1 g2 o1 o2
  · rcases get h1 with ⟨rfl, rfl⟩ | ⟨n1, g1⟩
    · cases o1
    · exact s.fresh i _ q g1 o1
end
section
variable {X : Cx} {e a c : Expr} {es : List Expr} {f g : EF} {l : LF} {n i j : Nat} {pos p px apos cpos : Pos} {x y : Str}
theorem own_at {K : PySem.W.Frag} {b : Addr} {F H : Hp} {ρ : Env} {σ : L2.St} {i : Nat} {l : List PyData} (lr : LR K b F H ρ σ) (h : ρ[i]? = some (.ow l)) : ∃ p vs, σ[i]? = some (some (.ref p)) ∧ p ≠ b ∧ F p = none ∧ H p = some (.lst vs) ∧ RpL K F vs l := lr.at_ i _ h
theorem ty_list {K : PySem.W.Frag} {H : Hp} {p : Addr} {vs : List V} (h : H p = some (.lst vs)) : tyV K "list" (.ref p) H := .inl ⟨rfl, vs, SqL.of h⟩
/-- x.append(e); hb: pe_bm .. mt_append (pv i) (pa_cons e pa_nil) -/
theorem z_app (hb : PE X e (tBM X.K "list" rAppend (tVar i) (tCons (TEv X.K f) tNil))) (hsw : swapsWith e none pos.line X.env = pure false := by rfl) : ZS X (.Expr e pos) (sApp i f) := by
  refine (ps_expr hb hsw).zimp ?_
  rintro D σ H ⟨b, F0, H0, F, ρ, B, si, q⟩
  obtain ⟨d, B1, e1, q⟩ := toS_ok q
  cases hr : ρ[i]? with
  | none => rw [hr] at q; exact q.elim
  | some sl =>
    cases sl <;> rw [hr] at q <;> first | exact q.elim | skip
    rename_i l
    simp only at q
    split at q <;> first | exact q.elim | skip
    rename_i hl
    obtain ⟨p, vs, e2, nb, nF, hH, rl⟩ := own_at si.lr hr
    refine ⟨_, e2, ty_list hH, ev_step si.ok si.lr e1 fun v F1 H1 x1 k1 l1 r1 => ?_⟩
    refine ⟨p, vs, v, rfl, rfl, x1.hp p _ nb hH, by rw [rl.length]; exact hl, ?_⟩
    exact q F1 _ σ ((si.go x1 k1).mut hr e2 ((rl.mono x1.fr).append (.cons r1 .nil))) x1.fr
theorem z_ext (hb : PE X e (tBM X.K "list" rExtend (tVar i) (tCons (TEv X.K f) tNil))) (hsw : swapsWith e none pos.line X.env = pure false := by rfl) : ZS X (.Expr e pos) (sExt i f) := by
  refine (ps_expr hb hsw).zimp ?_
  rintro D σ H ⟨b, F0, H0, F, ρ, B, si, q⟩
  obtain ⟨d, B1, e1, q⟩ := toS_ok q
  cases hr : ρ[i]? with
  | none => rw [hr] at q; exact q.elim
  | some sl =>
    cases sl <;> rw [hr] at q <;> first | exact q.elim | skip
    rename_i l
    cases d <;> simp only at q <;> first | exact q.elim | skip
    rename_i m
    split at q <;> first | exact q.elim | skip
    rename_i hl
    obtain ⟨p, vs, e2, nb, nF, hH, rl⟩ := own_at si.lr hr
    refine ⟨_, e2, ty_list hH, ev_step si.ok si.lr e1 fun v F1 H1 x1 k1 l1 r1 => ?_⟩
    cases r1 with
    | lst h2 r2 =>
      refine ⟨p, _, vs, _, rfl, rfl, x1.hp p _ nb hH, k1.same _ _ h2, by rw [rl.length, r2.length]; exact hl, ?_⟩
      exact q F1 _ σ ((si.go x1 k1).mut hr e2 ((rl.mono x1.fr).append r2)) x1.fr
/-- t = x.pop(); hb: pe_bm0 .. mt_pop (pv i) -/
theorem z_popL {tg : Expr} {t : Tg} (hb : PE X e (tBM0 X.K "list" rPop (tVar i))) (hg : ZG X tg t) (hs : swapsWithSole [tg] e pos.line X.env = pure false := by rfl) (hw : swappedStores [tg] e X.env = pure none := by rfl)
    (h1 : (assignEach [tg] X.env).map (·.2) = [assign tg X.env] := by rfl) : ZS X (.Assign [tg] e pos) (sPopL t i) := (ps_asg hb hg hs hw h1).zimp fun D σ H ⟨b, F0, H0, F, ρ, B, si, q⟩ => by
  unfold sPopL at q
  cases hr : ρ[i]? with
  | none => rw [hr] at q; exact q.elim
  | some sl =>
    cases sl <;> rw [hr] at q <;> first | exact q.elim | skip
    rename_i l
    simp only at q
    cases hd : l[l.length - 1]? with
    | none => rw [hd] at q; exact q.elim
    | some d =>
      rw [hd] at q
      simp only at q
      cases ht : t.bnd d (ρ.set i (.ow l.dropLast)) with
      | none => rw [ht] at q; exact q.elim
      | some ρ' =>
        rw [ht] at q
        obtain ⟨p, vs, e2, nb, nF, hH, rl⟩ := own_at si.lr hr
        obtain ⟨v, ev, rv⟩ := rl.get hd
        refine ⟨_, e2, ty_list hH, p, vs, v, rfl, rfl, hH, by rw [rl.length]; exact ev, ?_⟩
        exact (si.mut hr e2 rl.dropLast).bnd (.inl rv) t.okf ht fun σ' s' => q F _ σ' s' (Same.refl F)
/-- found = found + (x.pop(e),) -/
theorem z_popCat (hN : X.N.Nodup) (hb : PE X e (tOp (rCatF X.K) (tVar i) (tTupF (tCons (tBM X.K "list" rPopAt (tVar j) (tCons (TEv X.K f) tNil)) tNil)))) (hi : X.N[i]? = some x := by rfl) (hx : Loc X.env.scope x := by first | exact Or.inl rfl | exact Or.inr rfl) (hs : swapsWith e (some (.Name x px)) pos.line X.env = pure false := by rfl)
    (hf : X.fn x = true ∨ X.env.scope.names.lookup x = some .local := by first | exact .inl rfl | exact .inr rfl | assumption) : ZS X (.Assign [.Name x px] e pos) (sPopCat i j f) := (ps_set hN hi hx hb hs hf).zimp fun D σ H ⟨b, F0, H0, F, ρ, B, si, q⟩ => by
  unfold sPopCat at q
  cases hr : ρ[i]? with
  | none => rw [hr] at q; exact q.elim
  | some sl =>
    cases sl <;> rw [hr] at q <;> first | exact q.elim | skip
    rename_i dt
    cases dt <;> first | exact q.elim | skip
    rename_i t
    simp only at q
    obtain ⟨d, B1, e1, q⟩ := toS_ok q
    cases hj : ρ[j]? with
    | none => rw [hj] at q; exact q.elim
    | some sl =>
      cases sl <;> rw [hj] at q <;> first | exact q.elim | skip
      rename_i l
      cases d <;> simp only at q <;> first | exact q.elim | skip
      rename_i k
      split at q <;> first | exact q.elim | skip
      rename_i hc
      rw [Bool.and_eq_true, decide_eq_true_eq] at hc
      have hk := small_i hc.1
      cases hn : seqIndex? k l.length with
      | none => rw [hn] at q; exact q.elim
      | some n =>
        rw [hn] at q
        simp only at q
        cases hd : l[n]? with
        | none => rw [hd] at q; exact q.elim
        | some d =>
          rw [hd] at q
          obtain ⟨v0, e0, r0⟩ := si.lr.at_ i _ hr
          obtain ⟨p, vs, e2, nb, nF, hH, rl⟩ := own_at si.lr hj
          refine ⟨v0, e0, _, e2, ty_list hH, ev_step si.ok si.lr e1 fun v F1 H1 x1 k1 l1 r1 => ?_⟩
          cases r1
          have s1 := si.go x1 k1
          have rl1 := rl.mono x1.fr
          obtain ⟨y, ey, ry⟩ := rl1.get hd
          have s2 := s1.mut hj e2 (rl1.eraseIdx n)
          refine ⟨p, vs, k, n, y, rfl, rfl, x1.hp p _ nb hH, by omega, by omega, by rw [rl.length]; exact hn, ey, ?_⟩
          refine ⟨small_n (n := 1) (by decide), fun P oP nP tP => ?_⟩
          obtain ⟨x3, k3⟩ := Ext.new (o := .frz oP (.tup [y])) s2.ok nP
          have s3 := s2.go x3 k3
          cases r0 with
          | tup h0 rt =>
            rename_i a0 xs0
            have h1 := h0.mono (x1.fr.trans x3.fr)
            have rt1 : RpL X.K (upd F1 P (.frz oP (.tup [y]))) xs0 t := (rt.mono x1.fr).mono x3.fr
            have ry1 := ry.mono x3.fr
            refine ⟨a0, P, xs0, [y], rfl, rfl, (h1.mono k3.same).sq, ((TupF.new (K := X.K) tP).mono k3.same).sq, ?_, fun z => ?_, fun _ z => absurd z (List.cons_ne_nil _ _), fun _ _ P2 o2 nP2 t2 => ?_⟩
            · rw [rt.length]
              show t.length + 1 ≤ sizeLine
              exact small_n (by omega)
            · subst z
              cases rt1
              exact q _ _ _ (s3.set i (d := .tuple [d]) (.tup (.new tP) (.cons ry1 .nil))) (x1.fr.trans x3.fr)
            · obtain ⟨x4, k4⟩ := Ext.new (o := .frz o2 (.tup (xs0 ++ [y]))) k3 nP2
              exact q _ _ _ ((s3.go x4 k4).set i (d := .tuple (t ++ [d])) (.tup (.new t2) (.append (rt1.mono x4.fr) (.cons (ry1.mono x4.fr) .nil)))) ((x1.fr.trans x3.fr).trans x4.fr)
/-- x = y, y's own list handed over -/
theorem z_mov (hN : X.N.Nodup) (hi : X.N[i]? = some x := by rfl) (hx : Loc X.env.scope x := by first | exact Or.inl rfl | exact Or.inr rfl) (hj : X.N[j]? = some y := by rfl) (hy : Vis X.env.scope y := by first | exact Or.inl rfl | exact Or.inr (Or.inl rfl) | exact Or.inr (Or.inr rfl))
    (hd : (y == ("__debug__" : Str)) = false := by decide) (hcd : (y == ("__classdict__" : Str)) = false := by decide) (hf : X.fn x = true ∨ X.env.scope.names.lookup x = some .local := by first | exact .inl rfl | exact .inr rfl | assumption) :
    ZS X (.Assign [.Name x px] (.Name y p) pos) (sMov i j) := (ps_set hN hi hx (pe_var hj hy hd hcd) rfl hf).zimp fun D σ H ⟨b, F0, H0, F, ρ, B, si, q⟩ => by
  unfold sMov at q
  cases hr : ρ[j]? with
  | none => rw [hr] at q; exact q.elim
  | some sl =>
    cases sl <;> rw [hr] at q <;> first | exact q.elim | skip
    rename_i l
    obtain ⟨p, vs, e2, nb, nF, hH, rl⟩ := own_at si.lr hr
    refine ⟨_, e2, ?_⟩
    obtain ⟨sm, s2⟩ := si.hand hr e2 hH
    exact q _ H _ (s2.set i (.lst upd_same (rl.mono sm))) sm
/-- return x, x's own list handed over -/
theorem z_retO (hj : X.N[i]? = some x := by rfl) (hy : Vis X.env.scope x := by first | exact Or.inl rfl | exact Or.inr (Or.inl rfl) | exact Or.inr (Or.inr rfl)) (hd : (x == ("__debug__" : Str)) = false := by decide) (hcd : (x == ("__classdict__" : Str)) = false := by decide) :
    ZS X (.Return (some (.Name x p)) pos) (sRetO i) := (ps_ret (pe_var hj hy hd hcd)).zimp fun D σ H ⟨b, F0, H0, F, ρ, B, si, q⟩ => by
  unfold sRetO at q
  cases hr : ρ[i]? with
  | none => rw [hr] at q; exact q.elim
  | some sl =>
    cases sl <;> rw [hr] at q <;> first | exact q.elim | skip
    rename_i l
    obtain ⟨p, vs, e2, nb, nF, hH, rl⟩ := own_at si.lr hr
    refine ⟨_, e2, ?_⟩
    obtain ⟨x1, k1, sm⟩ := freeze si.ok si.ext (si.fresh i _ p hr rfl e2) nb nF hH
    exact q _ _ H x1 k1 (.lst upd_same (rl.mono sm))
end
end Tp

set_option Elab.async false
set_option linter.all false
/-! Cor3: more built-ins on data. -/
namespace Tp
open PySem
inductive Ty5 where
  | int | bool | tup | lst | str
def Ty5.nm : Ty5 → String
  | .int => "int" | .bool => "bool" | .tup => "tuple" | .lst => "list" | .str => "str"
def isiB : Ty5 → PyData → Bool
  | .int, .int _ => true
  | .int, .bool _ => true
  | .bool, .bool _ => true
  | .tup, .tuple _ => true
  | .lst, .list _ => true
  | .str, .str _ => true
  | _, _ => false
def dIsi (t : Ty5) (d : PyData) : Option PyData := some (.bool (isiB t d))
/-- whole numbers, ascending, every one once -/
def insI (k : Int) : List Int → List Int
  | [] => [k]
  | i :: r => if k ≤ i then k :: i :: r else i :: insI k r
def sortI : List Int → List Int
  | [] => []
  | k :: r => insI k (sortI r)
def ddI : List Int → List Int
  | [] => []
  | k :: r => if r.contains k then ddI r else k :: ddI r
def sumT (ns : List Int) : Bool := decide (ns.length ≤ 1000) && ns.all fun i => decide (-1000000 ≤ i ∧ i ≤ 1000000)
/-- sum of a tuple -/
def dSumT : PyData → Option PyData
  | .tuple l => (intsOf l).bind fun ns => if sumT ns then some (.int ns.sum) else none
  | _ => none
def dMin : PyData → Option PyData := fun d => (seqOf d).bind fun l => (intsOf l).bind fun ns => match ns with
  | [] => none
  | n :: r => some (.int (r.foldl min n))
def dMax : PyData → Option PyData := fun d => (seqOf d).bind fun l => (intsOf l).bind fun ns => match ns with
  | [] => none
  | n :: r => some (.int (r.foldl max n))
/-- sorted(list of whole numbers) -/
def dSortI : PyData → Option PyData
  | .list l => (intsOf l).map fun ns => .list ((sortI ns).map .int)
  | _ => none
def dSortRev : PyData → Option PyData
  | .list l => (intsOf l).map fun ns => .list ((sortI ns).reverse.map .int)
  | _ => none
/-- len(set(x)), sorted(set(x)) of whole numbers -/
def dLenSet (d : PyData) : Option PyData := (seqOf d).bind fun l => (intsOf l).bind fun ns => if ns.length < 1000 then some (.int (ddI ns).length) else none
def dSortSet (d : PyData) : Option PyData := (seqOf d).bind fun l => (intsOf l).bind fun ns => if ns.length < 1000 && decide ((ddI ns).length < 64) then some (.list ((sortI (ddI ns)).map .int)) else none
def idxOf (k : Int) : List Int → Option Nat
  | [] => none
  | i :: r => if i = k then some 0 else (idxOf k r).map (· + 1)
/-- t.index(x), a tuple of whole numbers -/
def dIndex : PyData → PyData → Option PyData
  | .tuple l, .int k => (intsOf l).bind fun ns => (idxOf k ns).map fun j => .int (j : Nat)
  | _, _ => none
/-- x.count(y) -/
def dCount : PyData → PyData → Option PyData
  | .list l, .int k => (intsOf l).map fun ns => .int (ns.count k : Nat)
  | .tuple l, .int k => (intsOf l).map fun ns => .int (ns.count k : Nat)
  | _, _ => none
end Tp

set_option Elab.async false
set_option linter.all false
set_option maxRecDepth 100000
set_option maxHeartbeats 4000000
/-! Snd13: isinstance, sum, min, max, sorted, index, count. -/
namespace Tp
open PySem PySem.Spec L2
/-! ### what whole numbers' lists are -/
theorem intsOf_map : ∀ {l : List PyData} {ns : List Int}, intsOf l = some ns → l = ns.map PyData.int
  | [], _, e => by cases e; rfl
  | d :: l, ns, e => by
    cases d <;> first | (cases e; done) | skip
    obtain ⟨m, e1, rfl⟩ := map_some_ok (show (intsOf l).map _ = some ns from e)
    rw [intsOf_map e1]
    rfl
theorem intsOf_int : ∀ ns : List Int, intsOf (ns.map PyData.int) = some ns
  | [] => rfl
  | i :: r => by simp [intsOf, intsOf_int r]
section
variable {K : PySem.W.Frag} {b : Addr} {F H : Hp} {B : Bag} {v : V}
theorem RpL.ofInts (F : Hp) : ∀ ns : List Int, RpL K F (ns.map V.int) (ns.map PyData.int)
  | [] => .nil
  | i :: r => .cons (.int i) (RpL.ofInts F r)
/-- a list, a tuple of whole numbers -/
theorem Bw.seqI (k : Same F H) {x : PyData} {l : List PyData} {ns : List Int} (h : Bw K b F H v x) (e : seqOf x = some l) (ei : intsOf l = some ns) : ∃ p, v = .ref p ∧ (SqL K H p (ns.map V.int) ∨ SqT K H p (ns.map V.int)) := by
  cases x <;> cases e
  · obtain ⟨p, vs, rfl, h1, r⟩ := h.listH k
    rw [r.ints ei] at h1
    exact ⟨p, rfl, .inl (SqL.of h1)⟩
  · obtain ⟨p, vs, rfl, _, h1, r⟩ := h.tuple k
    rw [r.ints ei] at h1
    exact ⟨p, rfl, .inr h1⟩
/-- a new list of whole numbers -/
theorem newInts (k : Ok b F H B) {ns : List Int} {Q : VK} (q : ∀ u F' H', Ext b F H F' H' → Ok b F' H' B → Rp K F' u (.list (ns.map PyData.int)) → Q u H') {p : Addr} (np : H p = none) : Q (.ref p) (upd H p (.lst (ns.map V.int))) := by
  obtain ⟨x2, k2⟩ := Ext.new (o := .lst (ns.map V.int)) k np
  exact q _ _ _ x2 k2 (.lst upd_same (.ofInts _ ns))
end
/-! ### isinstance -/
def tyN : PyData → String
  | .none => "NoneType"
  | .bool _ => "bool"
  | .int _ => "int"
  | .str _ => "str"
  | .list _ => "list"
  | .tuple _ => "tuple"
  | .dict _ => "dict"
theorem isi_kit (t : Ty5) (d : PyData) : kitB (tyN d) t.nm = some (isiB t d) := by
  cases t <;> cases d <;> first | (simp only [tyN, Ty5.nm, isiB]; decide +kernel)
theorem bw_ty {K : PySem.W.Frag} {b : Addr} {F H : Hp} {v : V} {d : PyData} (k : Same F H) (h : Bw K b F H v d) : TyX K H v (.type (tyN d)) := by
  rcases h with h | ⟨p, vs, l, rfl, h2, h3, h4, h5, rfl⟩ | ⟨p, kvs, l, rfl, h2, h3, h4, h5, rfl⟩
  · cases h with
    | non => exact .base .non
    | bl b => exact .base (.bl b)
    | int i => exact .base (.int i)
    | str x => exact .base (.str x)
    | lst s r => exact .base (.lst (k _ _ s))
    | tup s r =>
      rcases s.mono k with ⟨o, _, e⟩ | ⟨o, its, n, h1, h2, _⟩
      · exact .fTuple e
      · exact .kTuple h1 h2.1
    | dct s e r => exact .base (.dT (k _ _ s))
  · exact .base (.lst h4)
  · exact .base (.dT h4)
section
variable {X : Cx} {K : PySem.W.Frag} {e a c : Expr} {es : List Expr} {f g : EF} {l : LF} {p p2 pos apos cpos : Pos}
theorem z_isi {y : Str} (t : Ty5) (hv : bootBuiltins y = some (.type t.nm)) (hmy : X.mg y = none) (hm : X.mg "isinstance" = none) (ha : ZB X a f) (hg : Gl X "isinstance" := by rfl) (hgy : Gl X y := by rfl) (hny : y ≠ "__name__" := by decide) (hdy : (y == ("__debug__" : Str)) = false := by decide)
    (hs1 : starEach [.Name y p2] X.env = (false, eval (.Name y p2) X.env) :: starEach [] X.env := by rfl) (hs : starEach [a, .Name y p2] X.env = (false, eval a X.env) :: starEach [.Name y p2] X.env := by rfl) (hpl : (backTo pos (starEach [.Name y p2] X.env)).any (·.1) = false := by rfl) :
    ZE X (.Call (.Name "isinstance" p) [a, .Name y p2] [] pos) (e1 (dIsi t) f) := by
  have hty : PE X (.Name y p2) (tC (.ty t.nm)) := ⟨fun pins s σ H Q I q => ld_blt I hgy hmy hv ⟨.ty t.nm, H, I, rfl, q⟩ hny hdy⟩
  refine (pe_callB call_isi hg hm (by decide +kernel) (pa_cons ha (pa_cons hty pa_nil hs1) hs) (by decide) (by decide) hs hpl).zimp ?_
  rintro σ H Q ⟨b, F, ρ, B, k, lr, q⟩
  obtain ⟨d, B', e, q⟩ := q.ok
  obtain ⟨x, B1, e1, e⟩ := R.bind_ok e
  obtain ⟨e3, rfl⟩ := oR_ok e
  cases e3
  refine eb_step k lr e1 fun v F1 H1 x1 k1 l1 r1 => ⟨v, .ty t.nm, _, _, _, rfl, .ty _, bw_ty k1.same r1, kit_ty (isi_kit t x), q _ F1 H1 x1 k1 (.bl _)⟩
/-! ### sum, min, max -/
theorem sum_eq (val : Nat → Int) (ns : List Int) (h : ∀ i, i < ns.length → val i = ns.getD i 0) : ∀ n, n ≤ ns.length → preSum val n = (ns.take n).sum := by
  intro n
  induction n with
  | zero => intro _; rfl
  | succ n ih =>
    intro hn
    rw [List.take_add_one, List.sum_append, ← ih (by omega)]
    show preSum val n + val n = _
    rw [h n (by omega), List.getD_eq_getElem?_getD, List.getElem?_eq_getElem (by omega)]
    simp
theorem getD_int {its : List Value} {ns : List Int} (h : PyProof.Rows.IntsAre its ns) (i : Nat) (v : Value) (e : its.toArray[i]? = some v) : ∃ t, v = .int (ns.getD i 0) t := PyProof.Rows.IntsAre.int_at h i v (by simpa using e)
theorem sumT_long {ns : List Int} (h : sumT ns = true) : ∀ j, j < ns.length → InLong (ns.getD j 0) ∧ InLong (preSum (fun i => ns.getD i 0) (j + 1)) := by
  unfold sumT at h
  rw [Bool.and_eq_true, decide_eq_true_eq, List.all_eq_true] at h
  obtain ⟨hl, ha⟩ := h
  have hv : ∀ j, -1000000 ≤ ns.getD j 0 ∧ ns.getD j 0 ≤ 1000000 := fun j => by
    rw [List.getD_eq_getElem?_getD]
    cases q : ns[j]? with
    | none => simp
    | some z =>
      have := ha z (List.mem_of_getElem? q)
      simpa using this
  have hp : ∀ j : Nat, -(1000000 * (j : Int)) ≤ preSum (fun i => ns.getD i 0) j ∧ preSum (fun i => ns.getD i 0) j ≤ 1000000 * (j : Int) := by
    intro j
    induction j with
    | zero => exact ⟨by show -(1000000 * (0 : Int)) ≤ 0; omega, by show (0 : Int) ≤ 1000000 * 0; omega⟩
    | succ j ih =>
      have := hv j
      show _ ≤ preSum _ j + ns.getD j 0 ∧ preSum _ j + ns.getD j 0 ≤ _
      omega
  intro j hj
  have h1 := hv j
  have h2 := hp (j + 1)
  unfold InLong
  constructor <;> constructor <;> omega
/-- sum(t) -/
def rSumT (K : PySem.W.Frag) : List V → Hp → VK → Prop := fun xs H Q => ∃ p ns, xs = [.ref p] ∧ SqT K H p (ns.map V.int) ∧ sumT ns = true ∧ Q (.int ns.sum) H
theorem call_sumT (hc : X.calm = true) : CallR X (.builtin "sum") (rSumT X.K) := by
  intro pins s σ H xs us Q I r h
  obtain ⟨p, ns, rfl, hq, hs, q⟩ := h
  obtain ⟨u, rfl, rx⟩ := vals1 r
  cases rx
  obtain ⟨its, rv, pt, hz⟩ := I.tuple hq
  have hi := ints_of_vals rv
  have hlen : its.length = ns.length := by have := rv.length; simpa using this.symm
  have hlt : p < s.heap.objs.size := by obtain ⟨_, e, _⟩ := pt; exact Heap.lt_size e
  have nh : X.A.in1.handled = none := by have := I.ok.hd hc; simpa using this
  refine call_sum_walk (wpAny_pyIter_tuple (show s.heap.IsTuple p its.toArray from pt) ⟨_, _, _, _, _, _, fun i => ns.getD i 0, rfl, Walks.tuple nh _ p (Nat.ne_of_lt hlt) its.toArray, ⟨⟨_, Heap.get?_push_size _ rfl, rfl, rfl⟩, (show s.heap.IsTuple p its.toArray from pt).push _⟩, fun b hb => ?_, fun i v e => getD_int hi i v e, fun j hj => sumT_long hs j (by simpa [hlen] using hj), fun h' tk t' k => ?_⟩)
  · rw [Heap.size_push]
    rcases List.mem_cons.mp hb with rfl | hb
    · exact Nat.lt_succ_self _
    · rw [List.mem_singleton.mp hb]; exact Nat.lt_succ_of_lt hlt
  · have es : preSum (fun i => ns.getD i 0) its.toArray.size = ns.sum := by
      have := sum_eq (fun i => ns.getD i 0) ns (fun _ _ => rfl) its.toArray.size (by simp [hlen])
      rw [this]
      simp [hlen]
    refine ⟨.int ns.sum, H, I.kept (t' := tk) fun b o e => k b o ?_ (Heap.get?_push_of_some _ e), ⟨t', by rw [es]⟩, q⟩
    intro hb
    have hlt2 := Heap.lt_size e
    rw [List.mem_singleton.mp hb] at hlt2
    exact Nat.lt_irrefl _ hlt2
theorem ad_sumT : Ad1 K (rSumT K) dSumT := fun b F H B v x d Q k hx e q => by
  cases x <;> first | (cases e; done) | skip
  rename_i l
  cases ei : intsOf l with
  | none => simp [dSumT, ei] at e
  | some ns =>
    simp only [dSumT, ei, Option.bind_some] at e
    split at e <;> first | (cases e; done) | skip
    rename_i hs
    cases e
    obtain ⟨p, vs, rfl, _, h1, r⟩ := hx.tuple k.same
    rw [r.ints ei] at h1
    exact ⟨p, ns, rfl, h1, hs, q _ F H .refl k (.int _)⟩
/-- min(x), max(x) of a list, a tuple of whole numbers -/
def rMinI (K : PySem.W.Frag) (op : Int → Int → Int) : List V → Hp → VK → Prop := fun xs H Q => ∃ p n ns, xs = [.ref p] ∧ (SqL K H p ((n :: ns).map V.int) ∨ SqT K H p ((n :: ns).map V.int)) ∧ Q (.int (ns.foldl op n)) H
theorem alike_ints (n : Int) (ns : List Int) : PySem.W.AlikeAll (PyData.int n :: ns.map .int) := by
  have hm : ∀ x ∈ (PyData.int n :: ns.map .int), ∃ i, x = .int i := fun x hx => by
    rcases List.mem_cons.mp hx with h | h
    · exact ⟨n, h⟩
    · obtain ⟨i, _, e⟩ := List.mem_map.mp h
      exact ⟨i, e.symm⟩
  refine ⟨fun x hx y hy => ?_, fun x hx => ?_⟩
  · obtain ⟨i, rfl⟩ := hm x hx
    obtain ⟨j, rfl⟩ := hm y hy
    rfl
  · obtain ⟨i, rfl⟩ := hm x hx
    exact fun z => nomatch z
theorem depth_ints : ∀ ns : List Int, PyData.depthAll (ns.map PyData.int) ≤ 0
  | [] => Nat.le_refl _
  | i :: r => by
    have := depth_ints r
    simp only [List.map_cons, PyData.depthAll, PyData.depth]
    omega
theorem reads_ints : ∀ {us : List Value} {ns : List Int} {h : Heap}, PyProof.Rows.IntsAre us ns → ∃ as, ReadsAll h us (ns.map PyData.int) as
  | _, _, _, .nil => ⟨[], .nil⟩
  | _, _, h, .cons n t r => by
    obtain ⟨as, e⟩ := reads_ints (h := h) r
    exact ⟨_, .cons (.int n t) e⟩
theorem min_one (hc : X.calm = true) (hu : X.A.units + 64 < cLine) (mx : Bool) : CallR X (.builtin (if mx then "max" else "min")) (rMinI X.K (if mx then max else min)) := by
  intro pins s σ H xs us Q I r h
  obtain ⟨p, n, ns, rfl, hq, q⟩ := h
  obtain ⟨u, rfl, rx⟩ := vals1 r
  cases rx
  have nh : X.A.handled = none := I.ok.hd hc
  have dep : X.A.units + 1 + PyData.depthAll (PyData.int n :: ns.map .int) < cLine := by
    have := depth_ints (n :: ns)
    rw [List.map_cons] at this
    omega
  have fin : ∀ {m : Int} {v : Value} {h' : Heap} {tk : Nat} {bs : List Addr}, Reads h' v (.int m) bs → (∀ b o, s.heap.get? b = some o → h'.get? b = some o) → Q (.int m) H → EP X pins σ Q v { s with heap := h', toks := tk } := fun {m v h' tk bs} r k q => by
    cases r
    exact ⟨.int m, H, I.kept (t' := tk) k, ⟨_, rfl⟩, q⟩
  rcases hq with hq | hq
  · obtain ⟨its, rv, pt, hz⟩ := I.list hq
    obtain ⟨as, hr⟩ := reads_ints (h := s.heap) (ints_of_vals rv)
    cases mx
    · exact PySem.W.min_list_data nh pt.isList hr (alike_ints n ns) dep fun i v h' tk bs e1 e2 k => fin (by rw [PySem.W.minD_ints] at e2; exact e2) k q
    · exact PySem.W.max_list_data nh pt.isList hr (alike_ints n ns) dep fun i v h' tk bs e1 e2 k => fin (by rw [PySem.W.maxD_ints] at e2; exact e2) k q
  · obtain ⟨its, rv, pt, hz⟩ := I.tuple hq
    obtain ⟨as, hr⟩ := reads_ints (h := s.heap) (ints_of_vals rv)
    cases mx
    · exact PySem.W.min_tuple_data nh (show s.heap.IsTuple p its.toArray from pt) hr (alike_ints n ns) dep fun i v h' tk bs e1 e2 k => fin (by rw [PySem.W.minD_ints] at e2; exact e2) k q
    · exact PySem.W.max_tuple_data nh (show s.heap.IsTuple p its.toArray from pt) hr (alike_ints n ns) dep fun i v h' tk bs e1 e2 k => fin (by rw [PySem.W.maxD_ints] at e2; exact e2) k q
theorem call_minI (hc : X.calm = true) (hu : X.A.units + 64 < cLine) : CallR X (.builtin "min") (rMinI X.K min) := min_one hc hu false
theorem call_maxI (hc : X.calm = true) (hu : X.A.units + 64 < cLine) : CallR X (.builtin "max") (rMinI X.K max) := min_one hc hu true
theorem seqI_ok {x d : PyData} {o : List Int → Option PyData} (e : ((seqOf x).bind fun l => (intsOf l).bind o) = some d) : ∃ l ns, seqOf x = some l ∧ intsOf l = some ns ∧ o ns = some d := by
  cases h1 : seqOf x with
  | none => rw [h1] at e; cases e
  | some l =>
    cases h2 : intsOf l with
    | none => rw [h1, Option.bind_some, h2] at e; cases e
    | some ns => rw [h1, Option.bind_some, h2] at e; exact ⟨l, ns, rfl, h2, e⟩
theorem ad_min : Ad1 K (rMinI K min) dMin := fun b F H B v x d Q k hx e q => by
  obtain ⟨l, ns, h1, h2, e⟩ := seqI_ok e
  cases ns with
  | nil => cases e
  | cons n r =>
    cases e
    obtain ⟨p, rfl, h3⟩ := hx.seqI k.same h1 h2
    exact ⟨p, n, r, rfl, h3, q _ F H .refl k (.int _)⟩
theorem ad_max : Ad1 K (rMinI K max) dMax := fun b F H B v x d Q k hx e q => by
  obtain ⟨l, ns, h1, h2, e⟩ := seqI_ok e
  cases ns with
  | nil => cases e
  | cons n r =>
    cases e
    obtain ⟨p, rfl, h3⟩ := hx.seqI k.same h1 h2
    exact ⟨p, n, r, rfl, h3, q _ F H .refl k (.int _)⟩
/-! ### sorted -/
theorem insI_perm (k : Int) : ∀ l : List Int, (insI k l).Perm (k :: l)
  | [] => .refl _
  | i :: r => by
    unfold insI
    split
    · exact .refl _
    · exact ((insI_perm k r).cons i).trans (.swap k i r)
theorem sortI_perm : ∀ l : List Int, (sortI l).Perm l
  | [] => .refl _
  | k :: r => (insI_perm k (sortI r)).trans ((sortI_perm r).cons k)
theorem insI_asc (k : Int) : ∀ l : List Int, l.Pairwise (· ≤ ·) → (insI k l).Pairwise (· ≤ ·)
  | [], _ => by simp [insI]
  | i :: r, h => by
    obtain ⟨h1, h2⟩ := List.pairwise_cons.mp h
    unfold insI
    split
    · rename_i hk
      refine List.pairwise_cons.mpr ⟨fun y hy => ?_, h⟩
      rcases List.mem_cons.mp hy with rfl | hy
      · exact hk
      · exact Int.le_trans hk (h1 y hy)
    · rename_i hk
      refine List.pairwise_cons.mpr ⟨fun y hy => ?_, insI_asc k r h2⟩
      rcases List.mem_cons.mp ((insI_perm k r).mem_iff.mp hy) with rfl | hy
      · omega
      · exact h1 y hy
theorem sortI_asc : ∀ l : List Int, (sortI l).Pairwise (· ≤ ·)
  | [] => .nil
  | k :: r => insI_asc k _ (sortI_asc r)
theorem asc_one {l m : List Int} (p : l.Perm m) (h1 : l.Pairwise (· ≤ ·)) (h2 : m.Pairwise (· ≤ ·)) : l = m := List.Perm.eq_of_pairwise (fun a b _ _ h1 h2 => Int.le_antisymm h1 h2) h1 h2 p
theorem ad_sortI : Ad1 K (rSortedI K) dSortI := fun b F H B v x d Q k hx e q => by
  cases x <;> first | (cases e; done) | skip
  obtain ⟨ns, e1, rfl⟩ := map_some_ok e
  obtain ⟨p, vs, rfl, h1, r1⟩ := hx.listH k.same
  rw [r1.ints e1] at h1
  refine ⟨p, ns, rfl, SqL.of h1, fun ns' a hp ho na => ?_⟩
  rw [asc_one (hp.trans (sortI_perm ns).symm) ho (sortI_asc ns)]
  exact newInts k q na
/-- sorted(x, reverse=True) -/
theorem z_sortRev {kk : Nat} {kp : Pos} (hm : X.mg "sorted" = none) (ha : ZB X a f) (hg : Gl X "sorted" := by rfl)
    (hs1 : starEach [a] X.env = (false, eval a X.env) :: starEach [] X.env := by rfl) (hk : PK X [⟨some "reverse", .Constant (.bool true) kk kp, p2⟩] (tCons (tC (.bl true)) tNil)) (he : backTo pos (starEach [a] X.env) = (false, eval a X.env) :: backTo pos (starEach [] X.env) := by rfl) (hpl : (backTo pos (starEach [a] X.env)).any (·.1) = false := by rfl)
    (hall : (backToKw pos (keywordEach [⟨some "reverse", .Constant (.bool true) kk kp, p2⟩] X.env)).all (·.1.isSome) = true := by rfl) (hnone : (backToKw pos (keywordEach [⟨some "reverse", .Constant (.bool true) kk kp, p2⟩] X.env)).any (·.1.isNone) = false := by rfl)
    (hks : (backToKw pos (keywordEach [⟨some "reverse", .Constant (.bool true) kk kp, p2⟩] X.env)).filterMap (·.1) = [Str.ofString "reverse"] := by rfl) :
    ZE X (.Call (.Name "sorted" p) [a] [⟨some "reverse", .Constant (.bool true) kk kp, p2⟩] pos) (e1 dSortRev f) := (pe_callBK (cr_sortedRev (b := true)) hg hm (by decide +kernel) (pa_cons ha pa_nil hs1) hk (by decide) (by decide) he hpl hall hnone hks).zimp fun σ H Q ⟨b, F, ρ, B, k, lr, q⟩ => by
  obtain ⟨d, B', e, q⟩ := q.ok
  obtain ⟨x, B1, e1, e⟩ := R.bind_ok e
  obtain ⟨e3, rfl⟩ := oR_ok e
  cases x <;> first | (cases e3; done) | skip
  obtain ⟨ns, e4, rfl⟩ := map_some_ok e3
  refine eb_step k lr e1 fun v F1 H1 x1 k1 l1 r1 => ?_
  obtain ⟨p, vs, rfl, h1, r2⟩ := r1.listH k1.same
  rw [r2.ints e4] at h1
  refine ⟨p, ns, rfl, rfl, SqL.of h1, fun ns' a hp ho na => ?_⟩
  have e5 : ns' = (sortI ns).reverse := by
    have h2 : ns'.reverse.Pairwise (· ≤ ·) := List.pairwise_reverse.mpr ((show ns'.Pairwise (· ≥ ·) from ho).imp fun h => h)
    rw [← asc_one ((List.reverse_perm ns').trans (hp.trans (sortI_perm ns).symm)) h2 (sortI_asc ns), List.reverse_reverse]
  rw [e5]
  exact newInts k1 (fun u F' H' x3 k3 r3 => q u F' H' (x1.trans x3) k3 r3) na
end
end Tp

set_option Elab.async false
set_option linter.all false
set_option maxRecDepth 100000
set_option maxHeartbeats 4000000
/-! Snd14: methods of tuples and lists without a change. -/
namespace Tp
open PySem PySem.Spec L2
/-- the value is a tuple, no dict about it; or a list -/
def tyW (K : PySem.W.Frag) (T : String) (x : V) (H : Hp) : Prop := ∃ p xs, x = .ref p ∧ ((T = "list" ∧ SqL K H p xs) ∨ (T = "tuple" ∧ TupF K H p xs))
def tMW (K : PySem.W.Frag) (T : String) (r : V → List V → Hp → VK → Prop) (to : TE) (t : L2.TA) : TE := fun σ H Q => to σ H fun x H1 => tyW K T x H1 ∧ t σ H1 fun xs H2 => r x xs H2 Q
section
variable {X : Cx} {K : PySem.W.Frag} {e o : Expr} {es : List Expr} {f g : EF} {l : LF} {p pos apos cpos : Pos}
theorem tyW_is {pins : List (Addr × Obj)} {σ : L2.St} {H : Hp} {s : Shared} {T : String} {x : V} {v : Value} (I : Inv X pins σ H s) (r : RelV x v) (ty : tyW X.K T x H) : s.TypeIs v T ∧ ∀ a, v = .ref a → ∃ ob, s.heap.get? a = some ob ∧ ob.dict = none := by
  obtain ⟨p, xs, rfl, h⟩ := ty
  cases r
  rcases h with ⟨rfl, hq⟩ | ⟨rfl, hq⟩
  · obtain ⟨its, _, pl, _⟩ := I.list hq
    refine ⟨pl.isList.typeIs, fun a e => ?_⟩
    cases e
    obtain ⟨o, n, e, c, hd, _⟩ := pl
    exact ⟨o, e, hd⟩
  · have : ∃ ob, s.heap.get? p = some ob ∧ TO ob := by
      rcases hq with ⟨o, t, e⟩ | ⟨o, its, n, e, t, _⟩
      · obtain ⟨e1, _⟩ := I.hok p _ e
        exact ⟨o, e1, t⟩
      · exact ⟨o, I.kIn p o e, t⟩
    obtain ⟨ob, e1, t1, t2⟩ := this
    exact ⟨⟨ob, e1, t1⟩, fun a e => by cases e; exact ⟨ob, e1, t2⟩⟩
theorem pe_mw {name : Str} {T id : String} {r : V → List V → Hp → VK → Prop} {to : TE} {t : L2.TA} (pa : PlainAttrs T) (slot : PySem.Slot T name id) (hty : typeOf (.builtin id) = pure (.type "method_descriptor")) (hm : MtR X id r) (ho : PE X o to) (ha : PA X (e :: es) t)
    (hbase : attributeBase o name X.env (eval o X.env) = eval o X.env) (hfew : ((backTo cpos (starEach (e :: es) X.env)).all (fun x => !x.1) && (backToKw cpos (keywordEach [] X.env)).all (fun x => x.1.isSome) && decide ((e :: es).length + ([] : List Keyword).length + (if ([] : List Keyword).isEmpty then 0 else 1) < 30)) = true)
    (hline : (apos.endLine == cpos.line) = true) (hs : starEach (e :: es) X.env = (false, eval e X.env) :: starEach es X.env) (hplain : (backTo cpos (starEach es X.env)).any (·.1) = false) : PE X (.Call (.Attribute o name apos) (e :: es) [] cpos) (tMW X.K T r to t) := by
  constructor
  intro pins s σ H Q I h
  refine wpAny_Call_method_late hbase hfew hline rfl (thn (ho.run pins s σ H _ I h) ?_)
  rintro v s1 ⟨x, H1, I1, r1, ty, q1⟩
  obtain ⟨h1, h2⟩ := tyW_is I1 r1 ty
  refine ⟨T, id, pa, slot, hty, h1, h2, ?_⟩
  have hA := ha.run cpos pins s1 σ H1 _ I1 q1
  rw [hs] at hA ⊢
  refine Calls.callWith_builtin (by show (false || (backTo cpos (starEach es X.env)).any (·.1)) = false; rw [hplain]; rfl) (Calls.evalArgs_plain (thn hA ?_))
  rintro us s2 ⟨vs, H2, I2, r2, q2⟩
  exact hm pins s2 σ H2 x vs v us Q I2 r1 r2 q2
/-- the rule of a method answers as op says -/
def AdM (K : PySem.W.Frag) (T : String) (r : V → List V → Hp → VK → Prop) (op : PyData → PyData → Option PyData) : Prop := ∀ (b : Addr) (F H : Hp) (B : Bag) (v w : V) (x y d : PyData) (Q : VK), Ok b F H B → Bw K b F H v x → Bw K b F H w y → tyN x = T → op x y = some d →
  (∀ u F' H', Ext b F H F' H' → Ok b F' H' B → Rp K F' u d → Q u H') → r v [w] H Q
/-- x.m(y), x of the type T -/
def dTy (T : String) (op : PyData → PyData → Option PyData) : PyData → PyData → Option PyData := fun x y => if tyN x = T then op x y else none
theorem bw_tyW {b : Addr} {F H : Hp} {v : V} {x : PyData} {T : String} (k : Same F H) (hT : T = "list" ∨ T = "tuple") (h : Bw K b F H v x) (e : tyN x = T) : tyW K T v H := by
  subst e
  cases x <;> simp [tyN] at hT
  · obtain ⟨p, vs, rfl, h1, _⟩ := h.listH k
    exact ⟨p, vs, rfl, .inl ⟨rfl, SqL.of h1⟩⟩
  · obtain ⟨p, vs, rfl, h1, _, _⟩ := h.tuple k
    exact ⟨p, vs, rfl, .inr ⟨rfl, h1.mono k⟩⟩
theorem z_mw {name : Str} {T id : String} {r : V → List V → Hp → VK → Prop} {op : PyData → PyData → Option PyData} (hm : MtR X id r) (ad : AdM X.K T r op) (hT : T = "list" ∨ T = "tuple") (pa : PlainAttrs T) (slot : PySem.Slot T name id) (hty : typeOf (.builtin id) = pure (.type "method_descriptor")) (ho : ZB X o f) (ha : ZB X e g)
    (hbase : attributeBase o name X.env (eval o X.env) = eval o X.env := by rfl) (hfew : ((backTo cpos (starEach [e] X.env)).all (fun x => !x.1) && (backToKw cpos (keywordEach [] X.env)).all (fun x => x.1.isSome) && decide ([e].length + ([] : List Keyword).length + (if ([] : List Keyword).isEmpty then 0 else 1) < 30)) = true := by rfl)
    (hline : (apos.endLine == cpos.line) = true := by rfl) (hs : starEach [e] X.env = (false, eval e X.env) :: starEach [] X.env := by rfl) (hplain : (backTo cpos (starEach [] X.env)).any (·.1) = false := by rfl) : ZE X (.Call (.Attribute o name apos) [e] [] cpos) (e2 (dTy T op) f g) :=
  (pe_mw pa slot hty hm ho (pa_cons ha pa_nil hs) hbase hfew hline hs hplain).zimp fun σ H Q ⟨b, F, ρ, B, k, lr, q⟩ => by
  obtain ⟨d, B', e, q⟩ := q.ok
  obtain ⟨x, B1, e1, e⟩ := R.bind_ok e
  obtain ⟨y, B2, e2, e⟩ := R.bind_ok e
  obtain ⟨e3, rfl⟩ := oR_ok e
  unfold dTy at e3
  split at e3 <;> first | (cases e3; done) | skip
  rename_i ht
  refine eb_step k lr e1 fun v F1 H1 x1 k1 l1 r1 => ⟨bw_tyW k1.same hT r1 ht, eb_step k1 l1 e2 fun w F2 H2 x2 k2 l2 r2 => ?_⟩
  exact ad b F2 H2 _ v w x y d Q k2 (r1.ext x2) r2 ht e3 fun u F' H' x3 k3 r3 => q u F' H' ((x1.trans x2).trans x3) k3 r3
/-! ### count, index -/
theorem ad_count : AdM K "list" (rCntI K) dCount := fun b F H B v w x y d Q k hx hy ht e q => by
  cases x <;> cases y <;> first | (cases e; done) | skip
  · obtain ⟨ns, e1, rfl⟩ := map_some_ok e
    obtain ⟨p, vs, rfl, h1, r1⟩ := hx.listH k.same
    rw [r1.ints e1] at h1
    rw [hy.int]
    exact ⟨p, ns, _, rfl, rfl, SqL.of h1, q _ F H .refl k (.int _)⟩
  · obtain ⟨ns, e1, rfl⟩ := map_some_ok e
    exact absurd ht (by simp [tyN])
def rCntT (K : PySem.W.Frag) : V → List V → Hp → VK → Prop := fun x xs H Q => ∃ (p : Addr) (ns : List Int) (k : Int), x = .ref p ∧ xs = [.int k] ∧ SqT K H p (ns.map V.int) ∧ Q (.int (ns.count k : Nat)) H
theorem mt_tcount : MtR X "tuple.count" (rCntT X.K) := by
  intro pins s σ H x xs v us Q I rx rxs h
  obtain ⟨p, ns, k, rfl, rfl, hs, q⟩ := h
  cases rx
  obtain ⟨u, rfl, ru⟩ := rxs.one
  obtain ⟨t, rfl⟩ := ru
  obtain ⟨its, rv, ⟨⟨cls, dd, data, sl⟩, ho, hc, n, hd⟩, hlen⟩ := I.tuple hs
  simp only at hc hd
  subst hc hd
  have hi := ints_of_vals rv
  refine call_meets F.slot_tuple_count ⟨_, ho, rfl⟩ F.entry_tuple_count (F.args_tuple_count_2 _ _) (SeqAt.tuple_countAt p its.toArray n dd sl (.int k t) (eqk k)) ⟨ho, fun y hy => (eqk_gives hi y (by simpa using hy)).at _ _, ?_⟩
  refine ⟨.int (ns.count k : Nat), H, I.tok _, ⟨s.toks, ?_⟩, q⟩
  have := eqk_count (k := k) hi
  show Value.int _ _ = _
  rw [← this]
theorem ad_countT : AdM K "tuple" (rCntT K) dCount := fun b F H B v w x y d Q k hx hy ht e q => by
  cases x <;> cases y <;> first | (cases e; done) | skip
  · exact absurd ht (by simp [tyN])
  · obtain ⟨ns, e1, rfl⟩ := map_some_ok e
    obtain ⟨p, vs, rfl, _, h1, r1⟩ := hx.tuple k.same
    rw [r1.ints e1] at h1
    rw [hy.int]
    exact ⟨p, ns, _, rfl, rfl, h1, q _ F H .refl k (.int _)⟩
theorem idx_get : ∀ {ns : List Int} {k : Int} {j : Nat}, idxOf k ns = some j → k ∈ ns ∧ ns.idxOf k = j
  | [], _, _, e => by cases e
  | i :: r, k, j, e => by
    unfold idxOf at e
    split at e
    · rename_i h
      cases e
      subst h
      exact ⟨List.mem_cons_self .., by simp⟩
    · rename_i h
      obtain ⟨m, e1, rfl⟩ := map_some_ok e
      obtain ⟨h1, h2⟩ := idx_get e1
      refine ⟨List.mem_cons_of_mem _ h1, ?_⟩
      have hb : (i == k) = false := by simp [h]
      rw [List.idxOf_cons, hb, h2]
      rfl
def rIdxT (K : PySem.W.Frag) : V → List V → Hp → VK → Prop := fun x xs H Q => ∃ (p : Addr) (ns : List Int) (k : Int), x = .ref p ∧ xs = [.int k] ∧ SqT K H p (ns.map V.int) ∧ k ∈ ns ∧ Q (.int (ns.idxOf k : Nat)) H
theorem mt_tindex : MtR X "tuple.index" (rIdxT X.K) := by
  intro pins s σ H x xs v us Q I rx rxs h
  obtain ⟨p, ns, k, rfl, rfl, hs, hk, q⟩ := h
  cases rx
  obtain ⟨u, rfl, ru⟩ := rxs.one
  obtain ⟨t, rfl⟩ := ru
  obtain ⟨its, rv, pt, hlen⟩ := I.tuple hs
  have hi := ints_of_vals rv
  have hl : its.length = ns.length := by have := rv.length; simpa using this.symm
  refine SeqAt.call_tuple_index (show s.heap.IsTuple p its.toArray from pt) ⟨hl, fun j h1 h2 => ?_⟩ hk ⟨.int (ns.idxOf k : Nat), H, I.tok _, ⟨s.toks, rfl⟩, q⟩
  have h3 := eqk_gives (k := k) (t := t) hi its[j] (List.getElem_mem h1)
  have h4 := h3.at X.A.in1 s
  have h5 : eqk k its[j] = decide (ns[j] = k) := by
    obtain ⟨t', e⟩ := getD_int hi j its[j] (by simp [h1])
    have e2 : ns.getD j 0 = ns[j] := by rw [List.getD_eq_getElem?_getD, List.getElem?_eq_getElem h2]; rfl
    rw [e, e2]
    show (ns[j] == k) = _
    by_cases hh : ns[j] = k <;> simp [hh]
  rw [← h5]
  exact h4
theorem ad_index : AdM K "tuple" (rIdxT K) dIndex := fun b F H B v w x y d Q k hx hy ht e q => by
  cases x <;> cases y <;> first | (cases e; done) | skip
  rename_i l i
  cases ei : intsOf l with
  | none => simp [dIndex, ei] at e
  | some ns =>
    simp only [dIndex, ei, Option.bind_some] at e
    obtain ⟨j, e1, rfl⟩ := map_some_ok e
    obtain ⟨p, vs, rfl, _, h1, r1⟩ := hx.tuple k.same
    rw [r1.ints ei] at h1
    obtain ⟨h2, h3⟩ := idx_get e1
    rw [hy.int]
    exact ⟨p, ns, i, rfl, rfl, h1, h2, by rw [h3]; exact q _ F H .refl k (.int _)⟩
end
/-! ### calls with keywords alone -/
def permL {α : Type} (is : List Nat) (xs : List α) : List α := is.filterMap fun i => xs[i]?
theorem permL_nil {α : Type} (xs : List α) : permL [] xs = [] := rfl
theorem permL_rel {α β : Type} {R : α → β → Prop} {xs : List α} {ys : List β} (hl : xs.length = ys.length) (h : ∀ (i : Nat) (x : α) (y : β), xs[i]? = some x → ys[i]? = some y → R x y) : ∀ is : List Nat, Paired R (permL is xs) (permL is ys)
  | [] => .nil
  | i :: is => by
    have ih := permL_rel hl h is
    unfold permL at ih ⊢
    rw [List.filterMap_cons, List.filterMap_cons]
    cases e1 : xs[i]? with
    | none =>
      have : ys[i]? = none := by rw [List.getElem?_eq_none_iff] at e1 ⊢; omega
      rw [this]
      exact ih
    | some x =>
      cases e2 : ys[i]? with
      | none => rw [List.getElem?_eq_none_iff] at e2; have := (List.getElem?_eq_some_iff.mp e1).1; omega
      | some y => exact .cons (h i x y e1 e2) ih
theorem permL_rp {K : PySem.W.Frag} {F : Hp} {xs : List V} {ys : List PyData} (r : RpL K F xs ys) : ∀ is : List Nat, RpL K F (permL is xs) (permL is ys)
  | [] => .nil
  | i :: is => by
    have ih := permL_rp r is
    unfold permL at ih ⊢
    rw [List.filterMap_cons, List.filterMap_cons]
    cases e2 : ys[i]? with
    | none =>
      have : xs[i]? = none := by rw [List.getElem?_eq_none_iff] at e2 ⊢; have := r.length; omega
      rw [this]
      exact ih
    | some y =>
      obtain ⟨x, e1, r1⟩ := r.get e2
      rw [e1]
      exact .cons r1 ih
/-- keywords' values -/
structure ZK (X : Cx) (kws : List Keyword) (l : LF) (n : Nat) : Prop where
  pk : PK X kws (TLv X.K l)
  len : ∀ ρ B ds B', l ρ B = .ok ds B' → ds.length = n
section
variable {X : Cx} {e : Expr} {kws : List Keyword} {f : EF} {l : LF} {n kk k ar : Nat} {p pos kp : Pos} {nm : Option Str} {x : Str} {ps ks : List Str} {sem : FSem} {is : List Nat}
theorem _root_.L2.PK.zimp {X : Cx} {e : List Keyword} {t t' : L2.TA} (h : PK X e t) (i : ∀ σ H Q, t' σ H Q → t σ H Q) : PK X e t' := ⟨fun pos pins s σ H Q I q => h.run pos pins s σ H Q I (i _ _ _ q)⟩
theorem z_k0 : ZK X [] lNil 0 := ⟨pk_nil.zimp fun σ H Q ⟨b, F, ρ, B, k, l, q⟩ => q [] F H .refl k .nil, fun ρ B ds B' e => by cases e; rfl⟩
theorem z_kc (ha : ZE X e f) (hl : ZK X kws l n) : ZK X (⟨nm, e, kp⟩ :: kws) (lCons f l) (n + 1) := by
  refine ⟨(pk_cons ha hl.pk).zimp fun σ H Q ⟨b, F, ρ, B, k, lr, q⟩ => ?_, fun ρ B ds B' e => ?_⟩
  · obtain ⟨ds, B', e, q⟩ := q.ok
    obtain ⟨d, B1, e1, e⟩ := R.bind_ok e
    obtain ⟨dr, B2, e2, e⟩ := R.bind_ok e
    cases e
    refine ev_step k lr e1 fun v F1 H1 x1 k1 l1 r1 => lv_step k1 l1 e2 fun vs F2 H2 x2 k2 l2 r2 => ?_
    exact q _ F2 H2 (x1.trans x2) k2 (.cons (r1.mono x2.fr) r2)
  · obtain ⟨d, B1, e1, e⟩ := R.bind_ok e
    obtain ⟨dr, B2, e2, e⟩ := R.bind_ok e
    cases e
    rw [List.length_cons, hl.len _ _ _ _ e2]
def tCallK0 (n : Nat) (sp : Sp) (is : List Nat) (tk : L2.TA) : TE := fun σ H Q => tk σ H fun zs H2 => zs.length = n ∧ sp (permL is zs) H2 Q E0
/-- f(k = e, ..) -/
theorem z_callK {f0 : Addr} {fd0 : FuncData} {params : Arguments} {body : List Stmt} {scope : Scope} (G : Gd X kk) (Fe : FxE X.prog X.w X.K X.mg X.base x k false ar ps sem) (D : FunD X.K x x params body scope [] [] f0 fd0) (hm : X.mg x = some (.ref f0)) (hkw : ZK X kws l n) (is : List Nat)
    (hb : ∀ (kV doc pm : Value) (an : Option Addr) (cdv ct : Value) (us : List Value), us.length = n → bindArgs (PySem.W.fnOf x x params body scope .none kV doc pm an cdv ct) ⟨[], ks.zip us⟩ = pure (ps.zip (permL is us)))
    (hks : (backToKw pos (keywordEach kws X.env)).filterMap (·.1) = ks) (hk : k ≤ kk := by decide) (hg : Gl X x := by rfl) (hdb : (x == ("__debug__" : Str)) = false := by decide) (hall : (backToKw pos (keywordEach kws X.env)).all (·.1.isSome) = true := by rfl)
    (hpl : ((backTo pos (starEach [] X.env)).any (·.1) || (backToKw pos (keywordEach kws X.env)).any (·.1.isNone)) = false := by rfl) (har : ∀ ds : List PyData, ds.length = n → (permL is ds).length = ar) : ZE X (.Call (.Name x p) [] kws pos) (eCallK sem (permL is) l) := by
  obtain ⟨f, fd, F⟩ := Fe
  have ef : f0 = f := by
    have := hm.symm.trans F.at_
    cases this
    rfl
  subst ef
  have eb : ∀ us : List Value, us.length = n → bindArgs fd ⟨[], ks.zip us⟩ = pure (ps.zip (permL is us)) := by
    obtain ⟨oc, od, dV, kV, doc, pm, an, cdv, ct, osl, rfl, lk, hcd, hD, hK⟩ := D.ex
    obtain ⟨oc', od', osl', lk'⟩ := F.lk
    rw [lk] at lk'
    cases lk'
    rcases hD with ⟨_, rfl⟩ | ⟨e, _⟩
    · exact hb kV doc pm an cdv ct
    · exact absurd rfl e
  have pe : PE X (.Call (.Name x p) [] kws pos) (tCallK0 n (spF X.K false ar sem) is (TLv X.K l)) := by
    constructor
    intro pins s σ H Q I h
    refine wpAny_Call_Name_kw (ld_glob I hg hm ?_ hdb)
    refine PySem.W.callWith_KW0 (h₀ := X.base) I.ok.mod.kin F.kp hall ?_ hpl
    refine thn (hkw.pk.run pos pins s σ H _ I h) ?_
    rintro ws s2 ⟨zs, H2, I2, rz, hl, q2⟩
    refine ⟨I2.kIn, ?_⟩
    rw [hks]
    refine wpAny_call (codeAny_mono (run_g (F.fn.mono hk) G.gs G.rm I2 (us := permL is ws) (permL_rel rz.length (fun i x y e1 e2 => ?_) is) (.of_eq (eb ws (rz.length.symm.trans hl))) q2) ?_)
    · obtain ⟨u, e3, r3⟩ := rz.get e1
      rw [e2] at e3
      cases e3
      exact r3
    · rintro r s' ⟨u, rfl, h⟩
      exact h
  refine pe.zimp ?_
  rintro σ H Q ⟨b, F1, ρ, B, k, lr, q⟩
  obtain ⟨d, B', e, q⟩ := q.ok
  obtain ⟨ds, B1, e1, e2⟩ := R.bind_ok e
  refine lv_step k lr e1 fun vs F2 H2 x2 k2 l2 r2 => ⟨r2.length.trans (hkw.len _ _ _ _ e1), b, F2, B1, permL is vs, permL is ds, rfl, k2, permL_rp r2 is, har ds (hkw.len _ _ _ _ e1), ?_⟩
  rw [e2]
  exact fun v F3 H3 x3 k3 r3 => q v F3 H3 (x2.trans x3) k3 r3
end
end Tp

set_option Elab.async false
set_option linter.all false
set_option maxRecDepth 100000
set_option maxHeartbeats 4000000
/-! Snd15: what a law's head tells; scopes. -/
namespace Tp
open PySem PySem.Spec L2
structure Ctx (fa : List He.Fa) (fn : List He.DefD) (K : PySem.W.Frag) (mg : Str → Option Value) : Prop where
  says : He.SaysD fa fn K
  at_ : ∃ h : Heap, K.In h ∧ h.Ns mainGlobals mg
section
variable {fa : List He.Fa} {fn : List He.DefD} {K : PySem.W.Frag} {mg : Str → Option Value}
theorem Ctx.gd (C : Ctx fa fn K mg) (i : Nat) {x : Str} (h : fa[i]? = some (.glo x) := by rfl) : mg x = some (.ref (He.ga K x)) := by
  obtain ⟨hp, X, N⟩ := C.at_
  exact He.glo_ok X N (C.says.fact i h)
theorem Ctx.gf (C : Ctx fa fn K mg) (i : Nat) {x : Str} (h : fa[i]? = some (.free x) := by rfl) : mg x = none := by
  obtain ⟨hp, X, N⟩ := C.at_
  exact He.free_ok X N (C.says.fact i h)
theorem Ctx.gi (C : Ctx fa fn K mg) (i : Nat) {x : Str} {n : Int} (h : fa[i]? = some (.int x n) := by rfl) : ∃ t, mg x = some (.int n t) := by
  obtain ⟨hp, X, N⟩ := C.at_
  exact He.int_ok X N (C.says.fact i h)
theorem Ctx.gs (C : Ctx fa fn K mg) (i : Nat) {x z : Str} (h : fa[i]? = some (.str x z) := by rfl) : ∃ t, mg x = some (.str z t) := by
  obtain ⟨hp, X, N⟩ := C.at_
  exact He.str_ok X N (C.says.fact i h)
theorem Ctx.df (C : Ctx fa fn K mg) (i : Nat) {d : He.DefD} (h : fn[i]? = some d := by rfl) : ∃ fd, FunD K d.name d.qual d.params d.body d.scope (d.dvs K) (d.kws K) (He.fAd K d.at_) fd := C.says.def_ i h
end
/-- a scope's words, told by looking -/
def fscB (N P : List Str) (sc : Scope) : Bool := decide (sc.kind = .function) && !sc.isCoroutine && !sc.isGenerator && decide N.Nodup && decide (N.take P.length = P) &&
  P.all (fun x => decide (sc.names.lookup x = some .local) || decide (sc.names.lookup x = some .cell)) && sc.names.all fun y => !decide (y.2 = .free)
theorem fsc_by {N P : List Str} {sc : Scope} (h : fscB N P sc = true) : FnScope N P sc := by
  unfold fscB at h
  simp only [Bool.and_eq_true, Bool.or_eq_true, decide_eq_true_eq, Bool.not_eq_true', decide_eq_false_iff_not, List.all_eq_true] at h
  obtain ⟨⟨⟨⟨⟨⟨h1, h2⟩, h3⟩, h4⟩, h5⟩, h6⟩, h7⟩ := h
  exact ⟨h1, h2, h3, h4, h5, h6, h7⟩
section
variable {X : Cx} {e : Expr} {f : EF} {pos : Pos} {x z : Str} {i : Int}
theorem z_gi (hm : ∃ t, X.mg x = some (.int i t)) (hg : Gl X x := by rfl) (hd : (x == ("__debug__" : Str)) = false := by decide) : ZE X (.Name x pos) (eC (.int i)) := by
  obtain ⟨t, h⟩ := hm
  exact z_gint hg h hd
theorem z_gs' (hm : ∃ t, X.mg x = some (.str z t)) (hg : Gl X x := by rfl) (hd : (x == ("__debug__" : Str)) = false := by decide) : ZE X (.Name x pos) (eC (.str z)) := by
  obtain ⟨t, h⟩ := hm
  exact z_gstr hg h hd
theorem Gd.u {k : Nat} (G : Gd X k) : X.A.units + 64 < cLine := G.rm.units
theorem Gd.u1 {k : Nat} (G : Gd X k) : X.A.units + 65 < cLine := by have := G.rm.un; omega
theorem _root_.L2.PW.zt (h : ZW X e f) : ZT X e f := h.pt
end
end Tp

set_option Elab.async false
set_option linter.all false
set_option maxRecDepth 100000
set_option maxHeartbeats 4000000
/-! Snd16: list(range), tuple(range), (*a, b), enumerate of a tuple. -/
namespace Tp
open PySem PySem.Spec L2
/-- the whole numbers of a range, as a list, a tuple -/
def eRngL (src : LF) : EF := fun ρ B => (src ρ B).bind fun xs B => .ok (.list xs) B
def eRngT (src : LF) : EF := fun ρ B => (src ρ B).bind fun xs B => .ok (.tuple xs) B
section
variable {X : Cx} {K : PySem.W.Frag} {e a c : Expr} {es : List Expr} {f g : EF} {l : LF} {n : Nat} {p p2 pos : Pos}
theorem rg_rel {F : Hp} (lo hi : Int) : RpL K F (rgV lo hi) (rngI lo hi) := by
  unfold rgV rngI
  have gen : ∀ ks : List Nat, RpL K F (ks.map fun i => V.int (lo + (i : Nat))) (ks.map fun (k : Nat) => PyData.int (lo + (k : Int))) := fun ks => by
    induction ks with
    | nil => exact .nil
    | cons k r ih => exact .cons (.int _) ih
  exact gen _
/-- range(..) as an argument answers as src says -/
def TRg (K : PySem.W.Frag) (src : LF) : L2.St → Hp → (Int → Int → Hp → Prop) → Prop := fun σ H Q => ∃ b F ρ B xs B', Ok b F H B ∧ LR K b F H ρ σ ∧ src ρ B = .ok xs B' ∧ ∀ lo hi F' H', Ext b F H F' H' → Ok b F' H' B' → RgOk lo hi → xs = rngI lo hi → Q lo hi H'
theorem rgok {i j : Int} (h1 : smallI i = true) (h2 : smallI j = true) : RgOk i j := by
  have := small_i h1
  have := small_i h2
  refine ⟨?_, ?_, ?_, ?_, ?_⟩ <;> omega
theorem rng1_ok {ρ : Env} {B B' : Bag} {xs : List PyData} (e : iRng1 f ρ B = .ok xs B') : ∃ j, f ρ B = .ok (.int j) B' ∧ smallI j = true ∧ xs = rngI 0 j := by
  obtain ⟨d, B1, e1, e⟩ := R.bind_ok e
  cases d <;> first | (cases e; done) | skip
  simp only at e
  split at e <;> first | (cases e; done) | skip
  rename_i h
  cases e
  exact ⟨_, e1, h, rfl⟩
theorem rng2_ok {ρ : Env} {B B' : Bag} {xs : List PyData} (e : iRng2 f g ρ B = .ok xs B') : ∃ i j B1, f ρ B = .ok (.int i) B1 ∧ g ρ B1 = .ok (.int j) B' ∧ smallI i = true ∧ smallI j = true ∧ xs = rngI i j := by
  obtain ⟨d, B1, e1, e⟩ := R.bind_ok e
  obtain ⟨d2, B2, e2, e⟩ := R.bind_ok e
  cases d <;> cases d2 <;> first | (cases e; done) | skip
  simp only at e
  split at e <;> first | (cases e; done) | skip
  rename_i h
  rw [Bool.and_eq_true] at h
  cases e
  exact ⟨_, _, _, e1, e2, h.1, h.2, rfl⟩
abbrev ZRg (X : Cx) (e : Expr) (src : LF) : Prop := PRg X e (TRg X.K src)
theorem prg_imp {t t' : L2.St → Hp → (Int → Int → Hp → Prop) → Prop} (h : PRg X e t) (i : ∀ σ H Q, t' σ H Q → t σ H Q) : PRg X e t' := fun pins s σ H Q I q => h pins s σ H Q I (i _ _ _ q)
theorem z_g1r (hm : X.mg "range" = none) (ha : ZB X a f) (hg : Gl X "range" := by rfl) (na : starEach [a] X.env = (false, eval a X.env) :: starEach [] X.env := by rfl) : ZRg X (.Call (.Name "range" p) [a] [] pos) (iRng1 f) :=
  prg_imp (prg_1 hg hm ha na) fun σ H Q ⟨b, F, ρ, B, xs, B', k, lr, e, q⟩ => by
  obtain ⟨j, e1, hj, e2⟩ := rng1_ok e
  exact eb_step k lr e1 fun v F1 H1 x1 k1 l1 r1 => ⟨j, r1.int, q 0 j F1 H1 x1 k1 (rgok (by decide) hj) e2⟩
theorem z_g2r (hm : X.mg "range" = none) (ha : ZB X a f) (hc : ZB X c g) (hg : Gl X "range" := by rfl) (na : starEach [a, c] X.env = (false, eval a X.env) :: starEach [c] X.env := by rfl) (nb : starEach [c] X.env = (false, eval c X.env) :: starEach [] X.env := by rfl)
    (hp : (backTo pos (starEach [c] X.env)).any (·.1) = false := by rfl) : ZRg X (.Call (.Name "range" p) [a, c] [] pos) (iRng2 f g) :=
  prg_imp (prg_2 hg hm ha hc na nb hp) fun σ H Q ⟨b, F, ρ, B, xs, B', k, lr, e, q⟩ => by
  obtain ⟨i, j, B1, e1, e2, hi, hj, e3⟩ := rng2_ok e
  exact eb_step k lr e1 fun v F1 H1 x1 k1 l1 r1 => eb_step k1 l1 e2 fun w F2 H2 x2 k2 l2 r2 => ⟨i, j, r1.int, r2.int, q i j F2 H2 (x1.trans x2) k2 (rgok hi hj) e3⟩
theorem rng_len {lo hi : Int} (h : RgOk lo hi) : (rgV lo hi).length ≤ sizeLine := by
  rw [rgV_length]
  exact h.2.2.2.2
theorem z_listR (hc : X.calm = true) (hm : X.mg "list" = none) (he : ZRg X e l) (hg : Gl X "list" := by rfl) (na : starEach [e] X.env = (false, eval e X.env) :: starEach [] X.env := by rfl) : ZE X (.Call (.Name "list" p) [e] [] pos) (eRngL l) :=
  (pe_listRg hc hg hm he na).zimp fun σ H Q ⟨b, F, ρ, B, k, lr, q⟩ => by
  obtain ⟨d, B', e, q⟩ := q.ok
  obtain ⟨xs, B1, e1, e⟩ := R.bind_ok e
  cases e
  refine ⟨b, F, ρ, B, xs, _, k, lr, e1, fun lo hi F1 H1 x1 k1 ok e2 => ⟨ok, fun p np => ?_⟩⟩
  subst e2
  obtain ⟨x2, k2⟩ := Ext.new (o := .lst (rgV lo hi)) k1 np
  exact q _ _ _ (x1.trans x2) k2 (.lst upd_same (rg_rel lo hi))
theorem z_listRO (hc : X.calm = true) (hm : X.mg "list" = none) (he : ZRg X e l) (hg : Gl X "list" := by rfl) (na : starEach [e] X.env = (false, eval e X.env) :: starEach [] X.env := by rfl) : ZM X 1 (.Call (.Name "list" p) [e] [] pos) (eRngL l) :=
  (pe_listRg hc hg hm he na).zimp fun σ H Q ⟨b, F, ρ, B, k, lr, q⟩ => by
  obtain ⟨d, B', e, q⟩ := q.ok
  obtain ⟨xs, B1, e1, e⟩ := R.bind_ok e
  cases e
  refine ⟨b, F, ρ, B, xs, _, k, lr, e1, fun lo hi F1 H1 x1 k1 ok e2 => ⟨ok, fun p np => ?_⟩⟩
  subst e2
  obtain ⟨x2, k2⟩ := Ext.newO (o := .lst (rgV lo hi)) k1 np
  have nb : p ≠ b := fun z => by rw [z, k1.hb] at np; cases np
  refine q _ _ _ (x1.trans x2) k2 ⟨p, _, _, rfl, rfl, ?_, nb, k1.same.free np, upd_same, rg_rel lo hi⟩
  cases qq : H p with
  | none => rfl
  | some o => rw [x1.hp p o nb qq] at np; cases np
def tTupRgF (te : L2.St → Hp → (Int → Int → Hp → Prop) → Prop) : TE := fun σ H Q => te σ H fun a b H1 => RgOk a b ∧ NewT H1 (rgV a b) Q
theorem pe_tupRgF {te : L2.St → Hp → (Int → Int → Hp → Prop) → Prop} (hc : X.calm = true) (hg : Gl X "tuple") (hm : X.mg "tuple" = none) (he : PRg X e te) (na : starEach [e] X.env = (false, eval e X.env) :: starEach [] X.env) : PE X (.Call (.Name "tuple" p) [e] [] pos) (tTupRgF te) := by
  constructor
  intro pins s σ H Q I h
  refine PyProof.Rows.Call_ (ld_blt I hg hm PyProof.Rows.boot_tuple (PyProof.Rows.callWith_type1 (PyProof.Rows.args_cons (thn (he pins s σ H _ I h) ?_) na) na))
  rintro x s1 ⟨r, a, b, t, u, v, H1, ex, hr, I1, ok, q⟩
  subst ex
  obtain ⟨b1, b2, b3, b4, b5⟩ := id ok
  refine PyProof.Rows.args_nil (call_tuple_range (n := (b - a).toNat) (I1.ok.hd hc) hr (PySem.small_one b1 b2 b3 b4) (PyProof.Rows.rangeSize_nat a b) b5 fun h' tk acc hk hi => ?_)
  have I2 : Inv X pins σ H1 { s1 with heap := h', toks := tk } := I1.kept hk
  have z := laidT I2 (vals_rg hi) (rng_len ok) q
  rw [Array.toArray_toList] at z
  exact z
theorem z_tupR (hc : X.calm = true) (hm : X.mg "tuple" = none) (he : ZRg X e l) (hg : Gl X "tuple" := by rfl) (na : starEach [e] X.env = (false, eval e X.env) :: starEach [] X.env := by rfl) : ZE X (.Call (.Name "tuple" p) [e] [] pos) (eRngT l) :=
  (pe_tupRgF hc hg hm he na).zimp fun σ H Q ⟨b, F, ρ, B, k, lr, q⟩ => by
  obtain ⟨d, B', e, q⟩ := q.ok
  obtain ⟨xs, B1, e1, e⟩ := R.bind_ok e
  cases e
  refine ⟨b, F, ρ, B, xs, _, k, lr, e1, fun lo hi F1 H1 x1 k1 ok e2 => ⟨ok, ?_⟩⟩
  subst e2
  exact .of k1 (rg_rel lo hi) fun v F' H' x2 k2 r2 => q v F' H' (x1.trans x2) k2 r2
/-! ### (*a, ..) -/
theorem z_star {k : Nat} {sp : Pos} (ha : ZB X a f) (hl : ZA X es l n) (hn : n ≤ 1000 := by decide) (hs : starEach (.Starred a sp :: es) X.env = (true, eval a X.env) :: starEach es X.env := by rfl) : ZE X (.Tuple (.Starred a sp :: es) k pos) (eStar f l) :=
  (pe_tupF (StX.pa_star ha hl.pa hs)).zimp fun σ H Q ⟨b, F, ρ, B, k, lr, q⟩ => by
  obtain ⟨d, B', e, q⟩ := q.ok
  obtain ⟨x, B1, e1, e⟩ := R.bind_ok e
  obtain ⟨ds, B2, e2, e⟩ := R.bind_ok e
  refine eb_step k lr e1 fun v F1 H1 x1 k1 l1 r1 => ?_
  cases x <;> simp only [seqOf] at e <;> first | (cases e; done) | skip
  · split at e <;> first | (cases e; done) | skip
    rename_i hz
    cases e
    obtain ⟨p, vs, rfl, h1, r2⟩ := r1.listH k1.same
    refine ⟨p, vs, rfl, .inr (SqL.of h1), lv_step k1 l1 e2 fun ws F2 H2 x2 k2 l2 r3 => ⟨?_, .of k2 ((r2.mono x2.fr).append r3) fun v F' H' x3 k3 r4 => q v F' H' ((x1.trans x2).trans x3) k3 r4⟩⟩
    rw [List.length_append, r2.length, r3.length]
    exact hz
  · split at e <;> first | (cases e; done) | skip
    rename_i hz
    cases e
    obtain ⟨p, vs, rfl, _, h1, r2⟩ := r1.tuple k1.same
    refine ⟨p, vs, rfl, .inl h1, lv_step k1 l1 e2 fun ws F2 H2 x2 k2 l2 r3 => ⟨?_, .of k2 ((r2.mono x2.fr).append r3) fun v F' H' x3 k3 r4 => q v F' H' ((x1.trans x2).trans x3) k3 r4⟩⟩
    rw [List.length_append, r2.length, r3.length]
    exact hz
end
end Tp

set_option Elab.async false
set_option linter.all false
set_option maxRecDepth 100000
set_option maxHeartbeats 4000000
/-! Snd17: enumerate of a tuple. -/
namespace Tp
open PySem PySem.Spec L2
theorem enum_made {v1 : Value} {o1 : Obj} {H1 : Heap → Prop} (B1 : Begins v1 o1 H1) :
    Meets (Builtin.«enumerate.__new__» ⟨[.type "enumerate", v1], []⟩) (fun _ R z => H1 z.heap ∧ R (.ok (.ret (.ref (z.heap.push o1).objs.size))) { z with heap := (z.heap.push o1).push { cls := .type "enumerate", data := .fields #[.none, .bool false, .ref z.heap.objs.size, rawInt 0, .none, .none] } }) :=
  .of_wp fun prog w A R z h => by
    obtain ⟨hp, g, d, tk, os⟩ := z
    obtain ⟨h1, h⟩ := h
    have hsub := sub_enumerate
    have q1 : ∀ {A' : Around} {E : Value → Shared → Prop} {Q : Value → Shared → Prop}, Q (.ref hp.objs.size) ⟨hp.push o1, g, d, tk, os⟩ → wpAny (model prog w) A' (pyIter v1) Q E ⟨hp, g, d, tk, os⟩ := fun q => B1.iter prog w _ _ ⟨hp, g, d, tk, os⟩ _ h1 q
    wp_walk using q1
    refine wpAny_stack_any fun st => wpAny_pure ?_
    split
    · rename_i c _ _ _ _ _
      cases (c == Value.type "enumerate") <;> (wp_walk using q1; exact ⟨_, rfl, h⟩)
    · wp_walk using q1
      exact ⟨_, rfl, h⟩
section
variable {prog : Program} {w : World} {A : Around} {E : Value → Shared → Prop} {z : Shared}
theorem enum_begins {v1 : Value} {o1 : Obj} {H1 : Heap → Prop} {Q : Value → Shared → Prop} (B1 : Begins v1 o1 H1) (h1 : H1 z.heap)
    (done : ∀ h', IsEnum h' (z.heap.objs.size + 1) z.heap.objs.size 0 .none → h'.get? z.heap.objs.size = some o1 → h'.objs.size = z.heap.objs.size + 2 → (∀ b o, z.heap.get? b = some o → h'.get? b = some o) → Q (.ref (z.heap.objs.size + 1)) { z with heap := h' }) :
    wpAny (model prog w) A (call (.type "enumerate") [v1]) Q E z := by
  refine callType_new F.called_enumerate (by decide) (F.typeCall_enumerate_1 _) (F.newCall_enumerate_1 _) (fun obj => F.args_object_init_2 obj _) F.entry_enumerate_new (enum_made B1) ⟨h1, ?_⟩
  have z1 : (z.heap.push o1).objs.size = z.heap.objs.size + 1 := Heap.size_push ..
  show _ ∧ _
  rw [z1]
  have at1 : IsEnum ((z.heap.push o1).push { cls := .type "enumerate", data := .fields #[.none, .bool false, .ref z.heap.objs.size, rawInt 0, .none, .none] }) (z.heap.objs.size + 1) z.heap.objs.size 0 .none := by
    rw [← z1]
    exact Heap.get?_push_size _ rfl
  exact ⟨⟨_, at1, rfl⟩, done _ at1 (Heap.get?_push_of_some _ (Heap.get?_push_size _ B1.free)) (by rw [Heap.size_push, z1]) fun b o x => Heap.get?_push_of_some _ (Heap.get?_push_of_some _ x)⟩
end
/-- the tuple at a: each item in a new pair -/
def IteT (K : PySem.W.Frag) (a : Addr) : It :=
  ⟨fun i H => ∃ (xs : List V) (x : V), SqT K H a xs ∧ xs[i]? = some x, fun i H v H' => ∃ T x, v = .ref T ∧ H T = none ∧ H' = upd H T (.tup [.int (i : Nat), x]) ∧ ∀ xs, SqT K H a xs → xs[i]? = some x, fun i H => ∃ xs : List V, SqT K H a xs ∧ xs.length ≤ i⟩
theorem enum_turn {P : Program} {w : World} {K : PySem.W.Frag} {elts : List Expr} {kk : Nat} {tpos : Pos} (a e it : Addr) :
    Turn P w K (.Tuple elts kk tpos) (IteT K a) [e, it] e (fun i h => (∃ old, IsEnum h e it ((i : Nat) : Int) old) ∧ h.IsTupleIter it a i ∧ e ≠ it) where
  mem := List.mem_cons_self ..
  obj := fun i h st b hb => by
    obtain ⟨⟨old, he⟩, ⟨o, ho, hc, hd⟩, _⟩ := st
    rcases List.mem_cons.mp hb with rfl | hb
    · exact ⟨_, he, fun v q => nomatch q⟩
    · rw [List.mem_singleton.mp hb]
      exact ⟨o, ho, fun v q => by rw [hd] at q; cases q⟩
  keep := fun i h h' st k => by
    obtain ⟨⟨old, he⟩, hi, hne⟩ := st
    exact ⟨⟨old, k e (List.mem_cons_self ..) _ he⟩, hi.at fun o q => k it (List.mem_cons_of_mem _ (List.mem_singleton_self _)) o q, hne⟩
  item := by
    rintro X rfl rfl rfl hc i pins s σ H E I hf ⟨⟨old, he⟩, hit, hne⟩ ⟨xs, x, hq, hx⟩
    obtain ⟨its, rv, pt, hz⟩ := I.tuple hq
    obtain ⟨u, hu, ru⟩ := rv.get hx
    have ht : s.heap.IsTuple a its.toArray := pt
    have nai : a ≠ it := fun z => by
      obtain ⟨o1, h1, c1, _⟩ := ht
      obtain ⟨o2, h2, c2, _⟩ := hit
      rw [z, h2] at h1; cases h1
      rw [c1] at c2; exact absurd c2 (by decide)
    have nea : e ≠ a := fun z => by
      obtain ⟨o1, h1, c1, _⟩ := ht
      rw [← z, show s.heap.get? e = some _ from he] at h1; cases h1
      exact absurd (show Value.type "enumerate" = Value.type "tuple" from c1) (by decide)
    have lte : e < s.heap.objs.size := Heap.lt_size he
    have lti : it < s.heap.objs.size := by obtain ⟨_, q, _⟩ := hit; exact Heap.lt_size q
    have lt : i < its.toArray.size := by simpa using (List.getElem?_eq_some_iff.mp hu).1
    refine wpAny_pyNext_enum_itemD (Draws.tuple (A := X.A.in1) (by have := I.ok.hd hc; simpa using this) it a nai its.toArray) he ⟨hit, ht⟩ lt hne (by simp [hne, nea]) fun y h' tk hy ho hit' hT hsz hk => ?_
    have ey : y = u := by
      have : its.toArray[i]? = some u := by simpa using hu
      rw [this] at hy
      exact (Option.some.inj hy).symm
    subst ey
    refine ⟨_, rfl, wpAny_letOwnedTupleGo_enum (s := { s with heap := h', toks := tk + 1 }) ho fun h'' he' sb => ?_⟩
    have hT2 : h''.get? s.heap.objs.size = some { cls := .type "tuple", data := .seq #[.int i tk, y] } := (sb.2 _ (Nat.ne_of_gt lte)).trans hT
    have new : ObjOk X.prog X.w (upd H s.heap.objs.size (.tup [.int (i : Nat), x])) h'' s.heap.objs.size (.tup [.int (i : Nat), x]) := ⟨small_n (n := 2) (by decide), [.int i tk, y], .cons ⟨_, rfl⟩ (.cons ru .nil), ⟨_, hT2, rfl, _, rfl⟩⟩
    have I1 : Inv X pins σ (upd H s.heap.objs.size (.tup [.int (i : Nat), x])) { s with heap := h'', toks := tk + 1 } :=
      I.turnedNew (ch := [e, it]) (fun b ob hb q => (sb.2 b fun z => hb (by simp [z])).trans (hk b ob (fun z => hb (by simp [z])) (fun z => hb (by simp [z])) q)) hf (Nat.le_refl _) new
    refine ⟨.ref s.heap.objs.size, _, I1, rfl, ⟨_, x, rfl, I.hok.fresh (Nat.le_refl _), rfl, fun ys hy => by rw [I.tuple_inj hy hq]; exact hx⟩, ⟨⟨y, by simpa using he'⟩, hit'.1.at fun o q => (sb.2 it (Ne.symm hne)).trans q, hne⟩, fun b hb => ?_⟩
    have ltb : b < s.heap.objs.size := by
      rcases List.mem_cons.mp hb with rfl | hb
      · exact lte
      · rw [List.mem_singleton.mp hb]; exact lti
    rw [upd_ne (Nat.ne_of_lt ltb)]
    exact (hf b hb).1
  done := by
    rintro X rfl rfl rfl hc i pins s σ H E I hf ⟨⟨old, he⟩, hit, hne⟩ ⟨xs, hq, hx⟩
    obtain ⟨its, rv, pt, hz⟩ := I.tuple hq
    have ht : s.heap.IsTuple a its.toArray := pt
    have nai : a ≠ it := fun z => by
      obtain ⟨o1, h1, c1, _⟩ := ht
      obtain ⟨o2, h2, c2, _⟩ := hit
      rw [z, h2] at h1; cases h1
      rw [c1] at c2; exact absurd c2 (by decide)
    obtain ⟨f0, f1, f2, f3, f4, f5⟩ := hf it (List.mem_cons_of_mem _ (List.mem_singleton_self _))
    have hl := rv.length
    have D := Draws.tuple (prog := X.prog) (w := X.w) (A := X.A.in1) (by have := I.ok.hd hc; simpa using this) it a nai its.toArray
    have nx : its.toArray[i]? = none := by simp; omega
    have hT : s.TypeIs (.ref e) "enumerate" := ⟨_, he, rfl⟩
    unfold pyNext
    refine wpAny_bind (wpAny_attempt (wpAny_callSpecial?_slot (name := Str.ofString "__next__") hT F.slot_enumerate_next (wpAny_call_entry F.slot_enumerate_next hT F.entry_enumerate_next ?_ (F.args_enumerate_next_1 _))))
    show wpAny _ _ (field (.ref e) 2 >>= _) _ _ _
    refine wpAny_bind (wpAny_field he rfl (x := .ref it) rfl ?_)
    refine wpAny_bind (wpAny_nextOf_tuple_end (by have := I.ok.hd hc; simpa using this) hit ht nx fun h' x eb hx' => ?_)
    obtain ⟨o, ho, hc2⟩ := hx'
    refine wpAny_bind (wpAny_isInstance (T := "StopIteration") (b := true) ⟨o, ho, hc2⟩ isSubtype_stop ?_)
    exact wpAny_pure ⟨rfl, I.turned (t' := s.toks) (fun b o hb q => eb b o hb q) f0 f1 f3 f4 f5⟩
  self := fun A i s Q E st h => let ⟨⟨_, he⟩, _⟩ := st; wpAny_pyIter_enum he h
/-- enumerate(t), a tuple -/
def iEnumT (f : EF) : LF := fun ρ B => (f ρ B).bind fun d B => match d with
  | .tuple xs => if xs.length ≤ lim then .ok (enumD 0 xs) B else .bad
  | _ => .bad
def tEnumT (K : PySem.W.Frag) (ta : L2.TA) : TI := fun σ H R => ta σ H fun vs H1 => ∃ a xs, vs = [.ref a] ∧ SqT K H1 a xs ∧ R (IteT K a) H1
section
variable {X : Cx} {K : PySem.W.Frag} {tg e c : Expr} {f g : EF} {l : LF} {p pos tpos : Pos} {elts : List Expr} {kk : Nat}
theorem pi_enumT {ta : L2.TA} (hg : Gl X "enumerate") (hm : X.mg "enumerate" = none) (ha : PA X [e] ta) (hs : starEach [e] X.env = [(false, eval e X.env)]) : PI X (.Tuple elts kk tpos) (.Call (.Name "enumerate" p) [e] [] pos) (tEnumT X.K ta) := by
  constructor
  intro pins s σ H R I h
  refine PyProof.Rows.Call_ (ld_blt I hg hm PyProof.Rows.boot_enumerate (PyProof.Rows.callWith_type1 (thn (ha.run pos pins s σ H _ I h) ?_) hs rfl))
  rintro us s1 ⟨vs, H1, I1, r1, a, xs, rfl, hq, q⟩
  obtain ⟨u, rfl, r⟩ := vals1 r1
  cases r
  obtain ⟨its, rv, pt, hz⟩ := I1.tuple hq
  refine enum_begins (begins_tuple a its.toArray) pt fun h' he h0 hsz hk => wpAny_pyIter_enum he ?_
  have I2 : Inv X pins σ H1 { s1 with heap := h' } := I1.kept (t' := s1.toks) hk
  refine ⟨s1.heap.objs.size + 1, [s1.heap.objs.size + 1, s1.heap.objs.size], _, _, H1, rfl, I2, enum_turn a (s1.heap.objs.size + 1) s1.heap.objs.size, ⟨⟨.none, he⟩, ⟨_, h0, rfl, rfl⟩, Nat.succ_ne_self _⟩, fun b hb => ?_, q⟩
  have hle : s1.heap.objs.size ≤ b := by
    rcases List.mem_cons.mp hb with rfl | hb
    · exact Nat.le_succ _
    · rw [List.mem_singleton.mp hb]; exact Nat.le_refl _
  exact I1.fpOk hle (I1.hok.fresh hle)
theorem enumD_len : ∀ (k : Int) (xs : List PyData), (enumD k xs).length = xs.length
  | _, [] => rfl
  | k, x :: xs => congrArg Nat.succ (enumD_len (k + 1) xs)
theorem enumD_get : ∀ {xs : List PyData} {k : Int} {i : Nat} {d : PyData}, (enumD k xs)[i]? = some d → ∃ x, xs[i]? = some x ∧ d = .tuple [.int (k + (i : Int)), x]
  | [], _, _, _, e => by simp [enumD] at e
  | x :: xs, k, 0, d, e => by
    simp [enumD] at e
    exact ⟨x, rfl, by rw [← e]; simp⟩
  | x :: xs, k, i + 1, d, e => by
    have e' : (enumD (k + 1) xs)[i]? = some d := by simpa [enumD] using e
    obtain ⟨y, h1, h2⟩ := enumD_get e'
    refine ⟨y, by simpa using h1, ?_⟩
    have ek : k + 1 + (i : Int) = k + ((i + 1 : Nat) : Int) := by omega
    rw [h2, ek]
theorem wk_enumT {b : Addr} {F : Hp} {a : Addr} {vs : List V} {xs : List PyData} (h : TupF K F a vs) (r : RpL K F vs xs) (z : xs.length ≤ lim) : WkS K true b F (IteT K a) (enumD 0 xs) := ⟨by rw [enumD_len]; exact z, fun i F1 H1 B s k => by
  have hH : SqT K H1 a vs := ((h.mono s).mono k.same).sq
  refine ⟨fun d e => ?_, fun hl => ⟨vs, hH, by rw [r.length]; rw [enumD_len] at hl; exact hl⟩⟩
  obtain ⟨x, ex, rfl⟩ := enumD_get e
  obtain ⟨v, ev, rv⟩ := r.get ex
  refine ⟨⟨vs, v, hH, ev⟩, fun u H2 ⟨T, v', e1, nT, e2, hx⟩ => ?_⟩
  subst e1 e2
  cases (hx vs hH).symm.trans ev
  rw [Int.zero_add]
  exact pair_new k nT (.int _) (rv.mono s)⟩
theorem z_enum (hm : X.mg "enumerate" = none) (ha : ZE X e f) (hg : Gl X "enumerate" := by rfl) (hs1 : starEach [e] X.env = (false, eval e X.env) :: starEach [] X.env := by rfl) (hs : starEach [e] X.env = [(false, eval e X.env)] := by rfl) : ZIs X true (.Tuple elts kk tpos) (.Call (.Name "enumerate" p) [e] [] pos) (iEnumT f) :=
  (pi_enumT hg hm (pa_cons ha pa_nil hs1) hs).zimp fun σ H RR ⟨b, F, ρ, B, xs, B', k, lr, e, q⟩ => by
  obtain ⟨d, B1, e1, e⟩ := R.bind_ok e
  cases d <;> simp only at e <;> first | (cases e; done) | skip
  split at e <;> first | (cases e; done) | skip
  rename_i hz
  cases e
  refine ev_step k lr e1 fun v F1 H1 x1 k1 l1 r1 => ?_
  cases r1 with
  | tup s r => exact ⟨_, _, rfl, (s.mono k1.same).sq, q _ F1 H1 x1 k1 (wk_enumT s r hz)⟩
end
end Tp

set_option Elab.async false
set_option linter.all false
set_option maxRecDepth 100000
set_option maxHeartbeats 4000000
/-! Snd18: itertools.permutations(list). -/
namespace Tp
open PySem PySem.Spec L2
/-! ### the library's words about the type -/
theorem pm_mro : mroOf (.type "itertools.permutations") = pure [.type "itertools.permutations", .type "object"] := by rw [mroOf_type]; kernel_rfl
theorem pm_new : typeLookup (.type "itertools.permutations") "__new__" = pure (some (.builtin "itertools.permutations.__new__")) := by rw [typeLookup_type, builtinLookup_eq_fast]; kernel_rfl
theorem pm_sub : isSubtype (.type "itertools.permutations") (.type "itertools.permutations") = pure true := by rw [isSubtype_type]; kernel_rfl
theorem pm_init : PySem.Slot "itertools.permutations" "__init__" "object.__init__" := .of (owner := "object") (n := "__init__") (by rw [typeLookup_type, builtinLookup_eq_fast]; kernel_rfl) (by decide +kernel) (by decide +kernel) (by decide +kernel) (.inl (by decide +kernel)) (by rw [isSubtype_type]; kernel_rfl)
theorem pm_called : TypeCalled "itertools.permutations" "itertools.permutations.__new__" "object.__init__" := ⟨by decide +kernel, by decide +kernel, ⟨_, _, pm_mro⟩, madeBy_type pm_mro pm_new (by decide +kernel), by decide +kernel, pm_sub, pm_init⟩
theorem pm_tcall (a : Value) : checkTypeCall "itertools.permutations" ⟨[a], []⟩ = pure () := by kernel_rfl
theorem pm_ncall (a : Value) : checkBuiltinCall "itertools.permutations.__new__" ⟨[.type "itertools.permutations", a], []⟩ = pure () := by kernel_rfl
theorem pm_enew : entryFor table "itertools.permutations.__new__" = some Builtin.«itertools.permutations.__new__» := entryFor_of_tree (by kernel_rfl)
theorem pm_enext : entryFor table "itertools.permutations.__next__" = some Builtin.«itertools.permutations.__next__» := entryFor_of_tree (by kernel_rfl)
theorem pm_iter : PySem.Slot "itertools.permutations" "__iter__" "itertools.permutations.__iter__" := .of (owner := "itertools.permutations") (n := "__iter__") (by rw [typeLookup_type, builtinLookup_eq_fast]; kernel_rfl) (by decide +kernel) (by decide +kernel) (by decide +kernel) (.inl (by decide +kernel)) pm_sub
theorem pm_next : PySem.Slot "itertools.permutations" "__next__" "itertools.permutations.__next__" := .of (owner := "itertools.permutations") (n := "__next__") (by rw [typeLookup_type, builtinLookup_eq_fast]; kernel_rfl) (by decide +kernel) (by decide +kernel) (by decide +kernel) (.inl (by decide +kernel)) pm_sub
theorem pm_eiter : entryFor table "itertools.permutations.__iter__" = some Builtin.«dict_keyiterator.__iter__» := entryFor_alias (id' := "dict_keyiterator.__iter__") (by kernel_rfl) (by first | rfl | decide +kernel | (unfold String.splitOn; simp +decide [String.splitOnAux])) (by decide +kernel) (by kernel_rfl)
theorem pm_own : Manifest.owners.lookup (String.ofList ['s', 'n', 'o', 'i', 't', 'a', 't', 'u', 'm', 'r', 'e', 'p', '.', 's', 'l', 'o', 'o', 't', 'r', 'e', 't', 'i'].reverse) = some Manifest.sig_itertools_permutations := by kernel_rfl
theorem pm_aiter (a : Value) : argsOk "itertools.permutations.__iter__" ⟨[a], []⟩ := by
  unfold argsOk; rw [signature?_of (id := "itertools.permutations.__iter__") (n := ['_', '_', 'r', 'e', 't', 'i', '_', '_']) (o := ['s', 'n', 'o', 'i', 't', 'a', 't', 'u', 'm', 'r', 'e', 'p', '.', 's', 'l', 'o', 'o', 't', 'r', 'e', 't', 'i']) (by kernel_rfl) pm_own]; kernel_rfl
theorem pm_anext (a : Value) : argsOk "itertools.permutations.__next__" ⟨[a], []⟩ := by
  unfold argsOk; rw [signature?_of (id := "itertools.permutations.__next__") (n := ['_', '_', 't', 'x', 'e', 'n', '_', '_']) (o := ['s', 'n', 'o', 'i', 't', 'a', 't', 'u', 'm', 'r', 'e', 'p', '.', 's', 'l', 'o', 'o', 't', 'r', 'e', 't', 'i']) (by kernel_rfl) pm_own]; kernel_rfl
theorem pm_nodict : typeHasDict (.type "itertools.permutations") = false := by decide +kernel
/-! ### the order of the permutations -/
/-- the next indices and cycles -/
def nxtP (n : Nat) : Nat → List Nat → List Nat → Option (List Nat × List Nat)
  | 0, _, _ => none
  | i + 1, ix, cy => if cy.getD i 0 - 1 == 0 then nxtP n i (ix.take i ++ ix.drop (i + 1) ++ [ix.getD i 0]) (cy.set i (n - i)) else some ((ix.set i (ix.getD (n - (cy.getD i 0 - 1)) 0)).set (n - (cy.getD i 0 - 1)) (ix.getD i 0), cy.set i (cy.getD i 0 - 1))
theorem nxtP_len {n m : Nat} : ∀ {p : Nat} {ix cy ix' cy' : List Nat}, nxtP n p ix cy = some (ix', cy') → p ≤ ix.length → ix.length = m → ix'.length = m ∧ cy'.length = cy.length
  | 0, _, _, _, _, e, _, _ => by cases e
  | p + 1, ix, cy, ix', cy', e, h, hm => by
    unfold nxtP at e
    split at e
    · obtain ⟨h1, h2⟩ := nxtP_len (m := m) e (by simp; omega) (by simp; omega)
      exact ⟨h1, by rw [h2]; simp⟩
    · cases e
      exact ⟨by simp [hm], by simp⟩
/-- a permutations object: the pool, whether one was handed out, the last one, indices and cycles -/
abbrev IsPerm (h : Heap) (it pool : Addr) (flag : Int) (n : Nat) (last : Value) (nums : List Nat) : Prop :=
  h.get? it = some { cls := .type "itertools.permutations", dict := none, data := .fields ([.ref pool, rawInt flag, rawInt n, last] ++ nums.map fun (k : Nat) => rawInt k).toArray, slots := #[] }
section
variable {prog : Program} {w : World} {A : Around} {E : Value → Shared → Prop} {s : Shared}
theorem perm_iter {it pool : Addr} {flag : Int} {n : Nat} {last : Value} {nums : List Nat} {Q : Value → Shared → Prop} (hit : IsPerm s.heap it pool flag n last nums) (h : Q (.ref it) s) : wpAny (model prog w) A (pyIter (.ref it)) Q E s := by
  have hT : s.TypeIs (.ref it) "itertools.permutations" := ⟨_, hit, rfl⟩
  refine wpAny_pyIter_slot hT pm_iter (wpAny_call_entry pm_iter hT pm_eiter ?_ (pm_aiter _))
  show wpAny _ _ (ret (.ref it)) _ _ s
  exact wpAny_pure ⟨_, rfl, "itertools.permutations", _, hT, pm_next.lookup, h⟩
/-- its items' pool -/
theorem perm_pool {M : Model} {pool : Addr} {items : Array Value} {Q : Array Value → Shared → Prop} (hp : s.heap.IsTuple pool items) (h : Q items s) : wpAny M A (Builtin.Itertools.itPoolItems (.ref pool)) Q E s := by
  obtain ⟨o, ho, hc, k, hd⟩ := hp
  unfold Builtin.Itertools.itPoolItems
  exact wpAny_bind (wpAny_seqItems ho hd (wpAny_pure h))
end
end Tp

set_option Elab.async false
set_option linter.all false
set_option maxRecDepth 100000
set_option maxHeartbeats 4000000
namespace Tp
open PySem PySem.Spec L2
section
variable {prog : Program} {w : World} {A : Around} {E : Value → Shared → Prop} {s : Shared}
theorem perm_nums {M : Model} {it pool : Addr} {flag : Int} {n : Nat} {last : Value} {nums : List Nat} {Q : List Nat → Shared → Prop} (hit : IsPerm s.heap it pool flag n last nums) (h : Q nums s) : wpAny M A (Builtin.Itertools.itNumbersFrom (.ref it) 4) Q E s := by
  unfold Builtin.Itertools.itNumbersFrom
  refine wpAny_bind (wpAny_load hit ?_)
  refine wpAny_pure ?_
  have e : ((([.ref pool, rawInt flag, rawInt n, last] ++ nums.map fun (k : Nat) => rawInt k).toArray.toList.drop 4).map fun | .int n _ => n.toNat | _ => 0) = nums := by
    have : ∀ l : List Nat, (l.map fun (k : Nat) => rawInt k).map (fun | .int n _ => n.toNat | _ => 0) = l := by
      intro l
      induction l with
      | nil => rfl
      | cons a r ih => simp only [List.map_cons, ih]; rfl
    simpa using this nums
  exact cast (congrArg (fun z => Q z s) e.symm) h
theorem perm_int {M : Model} {it pool : Addr} {flag : Int} {n : Nat} {last : Value} {nums : List Nat} {Q : Int → Shared → Prop} {i : Nat} {k : Int} (hit : IsPerm s.heap it pool flag n last nums) (hk : ([.ref pool, rawInt flag, rawInt n, last] ++ nums.map fun (k : Nat) => rawInt k).toArray[i]? = some (rawInt k)) (h : Q k s) : wpAny M A (Builtin.Itertools.itIntField (.ref it) i) Q E s := by
  unfold Builtin.Itertools.itIntField
  exact wpAny_bind (wpAny_field hit rfl hk (wpAny_pure h))
theorem perm_result {A' : Around} {E' : Value → Shared → Prop} {P : PySem.Fin → Shared → Prop} {z : Shared} {it pool : Addr} {n m : Nat} {l : Value} {idx nums ix' : List Nat} {items : Array Value} (ei : idx.take m = ix') (hl : ix'.length ≤ 100) (hz0 : IsPerm z.heap it pool 1 n l nums)
    (h : ∀ h', IsPerm h' it pool 1 n (.ref z.heap.objs.size) nums → h'.get? z.heap.objs.size = some { cls := .type "tuple", data := .seq (ix'.map fun i => items.getD i .none).toArray } → (∀ b o, b ≠ it → z.heap.get? b = some o → h'.get? b = some o) → P (.done (.ret (.ref z.heap.objs.size))) { z with heap := h' }) :
    wpAny (model prog w) A' (do
        let t ← newTuple ((idx.take m).map fun i => items.getD i .none)
        let before ← field (.ref it) 3
        setField (.ref it) 3 t
        letGo [before] [t]
        ret t) P E' z := by
  rw [ei]
  have lti : it < z.heap.objs.size := Heap.lt_size hz0
  refine wpAny_bind (wpAny_newTuple ?_ (by rw [List.length_map]; exact small_n (by omega)))
  have hz1 : IsPerm (z.heap.push { cls := .type "tuple", data := .seq (ix'.map fun i => items.getD i .none).toArray }) it pool 1 n l nums := Heap.get?_push_of_some _ hz0
  refine wpAny_bind (wpAny_field hz1 rfl (x := l) (by simp) ?_)
  refine wpAny_bind (wpAny_setField_rec hz1 (by simp) fun h2 hz2 sb => ?_)
  refine wpAny_bind (wpAny_letGo ?_)
  refine wpAny_pure (h h2 ?_ ?_ fun b o hb he => ?_)
  · show h2.get? it = _
    rw [hz2]
    simp
  · rw [sb.2 _ (Nat.ne_of_gt lti)]
    exact Heap.get?_push_size z.heap (o := { cls := .type "tuple", data := .seq (ix'.map fun i => items.getD i .none).toArray }) rfl
  · rw [sb.2 b hb]
    exact Heap.get?_push_of_some _ he
theorem nxt_key (f : Nat → Nat → List Nat → List Nat → Option (List Nat × List Nat)) (h0 : ∀ n ix cy, f n 0 ix cy = none)
    (h1 : ∀ n i ix cy, f n (i + 1) ix cy = (if cy.getD i 0 - 1 == 0 then f n i (ix.take i ++ ix.drop (i + 1) ++ [ix.getD i 0]) (cy.set i (n - i)) else some ((ix.set i (ix.getD (n - (cy.getD i 0 - 1)) 0)).set (n - (cy.getD i 0 - 1)) (ix.getD i 0), cy.set i (cy.getD i 0 - 1)))) :
    ∀ n p ix cy, f n p ix cy = nxtP n p ix cy := by
  intro n p
  induction p with
  | zero => intro ix cy; rw [h0]; rfl
  | succ p ih =>
    intro ix cy
    rw [h1]
    unfold nxtP
    split
    · exact ih _ _
    · rfl
theorem perm_item {it pool : Addr} {flag : Int} {n : Nat} {last : Value} {ix cy ix' cy' : List Nat} {items : Array Value} {Q : Option Value → Shared → Prop} (hit : IsPerm s.heap it pool flag n last (ix ++ cy)) (hp : s.heap.IsTuple pool items) (hn : items.size = n) (h1 : ix.length = n) (h2 : cy.length = n)
    (hs : (flag = 0 ∧ ix' = ix ∧ cy' = cy) ∨ (flag = 1 ∧ nxtP n n ix cy = some (ix', cy'))) (h1' : ix'.length = n) (hz : n ≤ 100)
    (hQ : ∀ h', IsPerm h' it pool 1 n (.ref s.heap.objs.size) (ix' ++ cy') → h'.get? s.heap.objs.size = some { cls := .type "tuple", data := .seq (ix'.map fun i => items.getD i .none).toArray } → (∀ b o, b ≠ it → s.heap.get? b = some o → h'.get? b = some o) → Q (some (.ref s.heap.objs.size)) { s with heap := h' }) :
    wpAny (model prog w) A (pyNext (.ref it)) Q E s := by
  have hT : s.TypeIs (.ref it) "itertools.permutations" := ⟨_, hit, rfl⟩
  have lti : it < s.heap.objs.size := Heap.lt_size hit
  unfold pyNext
  refine wpAny_bind (wpAny_attempt (wpAny_callSpecial?_slot (name := Str.ofString "__next__") hT pm_next (wpAny_call_entry pm_next hT pm_enext ?_ (pm_anext _))))
  show wpAny _ _ (field (.ref it) 0 >>= _) _ _ s
  refine wpAny_bind (wpAny_field hit rfl (x := .ref pool) (by simp) ?_)
  refine wpAny_bind (perm_pool hp ?_)
  refine wpAny_bind (perm_int (k := n) hit (by simp) ?_)
  refine wpAny_bind (perm_nums hit ?_)
  refine wpAny_bind (perm_int (k := flag) hit (by simp) ?_)
  have tk : (ix ++ cy).take n = ix := by rw [← h1]; simp
  have dr : (ix ++ cy).drop n = cy := by rw [← h1]; simp
  rcases hs with ⟨rfl, rfl, rfl⟩ | ⟨rfl, hx⟩
  · show wpAny _ _ (setField (.ref it) 1 (rawInt 1) >>= _) _ _ s
    refine wpAny_bind (wpAny_setField_rec hit (by simp) fun h2 hz2 sb => ?_)
    refine perm_result (ix' := ix') (z := { s with heap := h2 }) (it := it) (pool := pool) (n := n) (l := last) (nums := ix' ++ cy') (by rw [Int.toNat_natCast]; exact tk) (by omega) ?_ fun h3 a1 a2 a3 => ⟨_, rfl, wpAny_pure ?_⟩
    · show h2.get? it = _
      rw [hz2]
      simp
    · rw [show Shared.heap { s with heap := h2 } = h2 from rfl, sb.1] at a1 a2
      rw [show Shared.heap { s with heap := h2 } = h2 from rfl, sb.1]
      exact hQ h3 a1 a2 fun b o hb he => a3 b o hb ((sb.2 b hb).trans he)
  · simp only []
    split
    · rename_i o i2 c2 heq
      have e1 := (nxt_key _ (fun _ _ _ => rfl) (fun _ _ _ _ => rfl) _ _ _ _).symm.trans heq
      rw [hn, Int.toNat_natCast, tk, dr, hx] at e1
      cases e1
      show wpAny _ _ (Builtin.Itertools.itSetNumbersFrom (.ref it) 4 (ix' ++ cy') >>= _) _ _ s
      unfold Builtin.Itertools.itSetNumbersFrom
      have lc := (nxtP_len hx (by omega) h1).2
      refine wpAny_bind (wpAny_updateFields hit rfl ?_ (by simp only [Array.size_append, List.size_toArray, List.length_map, List.length_append, Array.size_extract]; have := small_n (n := 300) (by decide); simp; omega))
      have g2 := Heap.get?_update_self (Obj.mapFields fun fs => fs.extract 0 4 ++ ((ix' ++ cy').map fun (n : Nat) => rawInt n).toArray) hit rfl
      have sb : Heap.SameBut it s.heap (s.heap.update it (Obj.mapFields fun fs => fs.extract 0 4 ++ ((ix' ++ cy').map fun (n : Nat) => rawInt n).toArray)) := Heap.SameBut.update ..
      generalize s.heap.update it (Obj.mapFields fun fs => fs.extract 0 4 ++ ((ix' ++ cy').map fun (n : Nat) => rawInt n).toArray) = h2 at g2 sb
      refine perm_result (ix' := ix') (z := { s with heap := h2 }) (it := it) (pool := pool) (n := n) (l := last) (nums := ix' ++ cy') (by rw [Int.toNat_natCast, List.take_of_length_le (by omega)]) (by omega) ?_ fun h3 a1 a2 a3 => ⟨_, rfl, wpAny_pure ?_⟩
      · show h2.get? it = _
        rw [g2]
        simp [Obj.mapFields]
      · rw [show Shared.heap { s with heap := h2 } = h2 from rfl, sb.1] at a1 a2
        rw [show Shared.heap { s with heap := h2 } = h2 from rfl, sb.1]
        exact hQ h3 a1 a2 fun b o hb he => a3 b o hb ((sb.2 b hb).trans he)
    · rename_i heq
      have e1 := (nxt_key _ (fun _ _ _ => rfl) (fun _ _ _ _ => rfl) _ _ _ _).symm.trans heq
      rw [hn, Int.toNat_natCast, tk, dr, hx] at e1
      cases e1
end
end Tp

set_option Elab.async false
set_option linter.all false
set_option maxRecDepth 100000
set_option maxHeartbeats 4000000
/-! Snd20: permutations: the end, the making. -/
namespace Tp
open PySem PySem.Spec L2
section
variable {prog : Program} {w : World} {A : Around} {E : Value → Shared → Prop} {s : Shared}
theorem perm_end {it pool : Addr} {n : Nat} {last : Value} {ix cy : List Nat} {items : Array Value} {Q : Option Value → Shared → Prop} (hh : A.handled = none) (hit : IsPerm s.heap it pool 1 n last (ix ++ cy)) (hp : s.heap.IsTuple pool items) (hn : items.size = n) (h1 : ix.length = n) (h2 : cy.length = n)
    (hx : nxtP n n ix cy = none) (hQ : ∀ h', Heap.ExtBut it s.heap h' → Q none { s with heap := h' }) : wpAny (model prog w) A (pyNext (.ref it)) Q E s := by
  have hT : s.TypeIs (.ref it) "itertools.permutations" := ⟨_, hit, rfl⟩
  unfold pyNext
  refine wpAny_bind (wpAny_attempt (wpAny_callSpecial?_slot (name := Str.ofString "__next__") hT pm_next (wpAny_call_entry pm_next hT pm_enext ?_ (pm_anext _))))
  show wpAny _ _ (field (.ref it) 0 >>= _) _ _ s
  refine wpAny_bind (wpAny_field hit rfl (x := .ref pool) (by simp) ?_)
  refine wpAny_bind (perm_pool hp ?_)
  refine wpAny_bind (perm_int (k := n) hit (by simp) ?_)
  refine wpAny_bind (perm_nums hit ?_)
  refine wpAny_bind (perm_int (k := 1) hit (by simp) ?_)
  have tk : (ix ++ cy).take n = ix := by rw [← h1]; simp
  have dr : (ix ++ cy).drop n = cy := by rw [← h1]; simp
  simp only []
  split
  · rename_i o i2 c2 heq
    have e1 := (nxt_key _ (fun _ _ _ => rfl) (fun _ _ _ _ => rfl) _ _ _ _).symm.trans heq
    rw [hn, Int.toNat_natCast, tk, dr, hx] at e1
    cases e1
  · refine wpAny_bind (wpAny_setField_rec hit (by simp) fun h2 hz2 sb => ?_)
    show wpAny _ _ (newExc (.type "StopIteration") [] >>= _) _ _ _
    refine wpAny_bind ?_
    simp only [newExc, newTuple]
    refine wpAny_bind (wpAny_newObj_type ?_ (by size_fits))
    refine wpAny_bind (m := firstArgMember _ _) (wpAny_of_eq (a := Value.none) (by first | rfl | (simp only [firstArgMember]; rfl)) ?_)
    refine wpAny_newObj_type ?_ (by size_fits)
    simp only [raiseNew]
    refine wpAny_bind (wpAny_handled ?_)
    first | rw [show A.in1.handled = none from hh] | rw [hh]
    refine wpAny_bind (wpAny_pure (wpAny_throw ?_))
    refine wpAny_bind (wpAny_isInstance (T := "StopIteration") (b := true) ⟨_, Heap.get?_push_size _ rfl, rfl⟩ isSubtype_stop ?_)
    exact wpAny_pure (hQ _ ((sb.extBut.push _).push _))
theorem pm_plain : plainId "itertools.permutations.__new__" = true := by decide +kernel
theorem pm_bind (l : Addr) : Builtin.Itertools.itBindNamed "permutations" ["iterable", "r"] 1 2 [.ref l] [] = pure [some (.ref l), none] := by kernel_rfl
theorem pm_sub2 : isSubtype (.type "itertools.permutations") (.type ("itertools." ++ "permutations")) = pure true := pm_sub
theorem perm_code {l : Addr} {vs : List Value} {Q₁ : Value → Shared → Prop} (hl : s.heap.IsList l vs.toArray) (hz : vs.length ≤ 100)
    (h : ∀ h' pool it, IsPerm h' it pool 0 vs.length .none (List.range vs.length ++ (List.range vs.length).map fun i => vs.length - i) → h'.IsTuple pool vs.toArray → s.heap.objs.size ≤ pool → s.heap.objs.size ≤ it → pool ≠ it → (∀ b o, s.heap.get? b = some o → h'.get? b = some o) → Q₁ (.ref it) { s with heap := h' }) :
    codeAny (model prog w) A (.call (.builtin "itertools.permutations.__new__") ⟨[.type "itertools.permutations", .ref l], []⟩) (wants Q₁ E) s := by
  refine codeAny_of_tree ?_
  show wpAny _ A.in1 (do checkBuiltinCall "itertools.permutations.__new__" ⟨[.type "itertools.permutations", .ref l], []⟩; again (.builtin "itertools.permutations.__new__" ⟨[.type "itertools.permutations", .ref l], []⟩)) _ _ s
  refine wpAny_bind (wpAny_of_eq (pm_ncall _) (wpAny_pure ⟨plainId_quiet pm_plain _, codeAny_builtin pm_enew ?_⟩))
  rw [Around.under_plainId pm_plain _]
  unfold Builtin.«itertools.permutations.__new__» Builtin.Itertools.itClassAndRest
  have hsub := pm_sub2
  have hd := pm_nodict
  have hb := pm_bind l
  obtain ⟨hp, g, d, tk, os⟩ := s
  have qc : ∀ {A' : Around} {E' : Value → Shared → Prop} {Q' : List Value → Shared → Prop}, Q' vs ⟨(hp.push (PyProof.Rows.seqObj "list" #[] 0)).update hp.objs.size (Obj.mapSeq (· ++ vs.toArray)), g, d, tk, os⟩ → wpAny (model prog w) A' (collect (.ref l)) Q' E' ⟨hp, g, d, tk, os⟩ := fun q => PyProof.Rows.collect_list hl q (small_n (by omega))
  dsimp only
  wp_walk using qc
  have k1 : ∀ b o, hp.get? b = some o → ((hp.push (PyProof.Rows.seqObj "list" #[] 0)).update hp.objs.size (Obj.mapSeq (· ++ vs.toArray))).get? b = some o := fun b o e => by
    rw [(Heap.SameBut.update ..).2 b (Nat.ne_of_lt (Heap.lt_size e))]
    exact Heap.get?_push_of_some _ e
  have z1 : hp.objs.size ≤ ((hp.push (PyProof.Rows.seqObj "list" #[] 0)).update hp.objs.size (Obj.mapSeq (· ++ vs.toArray))).objs.size := by
    rw [(Heap.SameBut.update (h := hp.push (PyProof.Rows.seqObj "list" #[] 0)) ..).1, Heap.size_push]
    omega
  generalize (hp.push (PyProof.Rows.seqObj "list" #[] 0)).update hp.objs.size (Obj.mapSeq (· ++ vs.toArray)) = h1 at k1 z1
  rw [if_neg (by unfold Builtin.Itertools.itTooMany; rw [decide_eq_true_eq]; have : (2 : Int) ^ 20 = 1048576 := by decide
                 omega)]
  refine wpAny_bind (wpAny_newTuple ?_ (small_n (by omega)))
  unfold Builtin.Itertools.itNewRecord
  dsimp only
  have eg : (if vs.length > vs.length then (2 : Int) else 0) = 0 := if_neg (Nat.lt_irrefl _)
  rw [hd, Int.toNat_natCast, if_pos (by decide), eg]
  refine wpAny_bind (wpAny_newObj_type ?_ (by show _ ≤ _; simp; have := small_n (n := 300) (by decide); omega))
  refine wpAny_pure ?_
  have z2 : (h1.push ({ cls := .type "tuple", data := .seq vs.toArray } : Obj)).objs.size = h1.objs.size + 1 := Heap.size_push ..
  have en : (List.range vs.length).map (fun (i : Nat) => rawInt ((vs.length : Int) - (i : Int))) = ((List.range vs.length).map fun i => vs.length - i).map fun (k : Nat) => rawInt k := by
    rw [List.map_map]
    refine List.map_congr_left fun i hi => ?_
    have := List.mem_range.mp hi
    show rawInt ((vs.length : Int) - (i : Int)) = rawInt ((vs.length - i : Nat) : Int)
    congr 1
    omega
  show Q₁ (.ref (h1.push ({ cls := .type "tuple", data := .seq vs.toArray } : Obj)).objs.size) ⟨(h1.push ({ cls := .type "tuple", data := .seq vs.toArray } : Obj)).push ({ cls := .type "itertools.permutations", data := .fields ([.ref h1.objs.size, rawInt 0, rawInt vs.length, .none] ++ (List.range vs.length).map (fun (i : Nat) => rawInt i) ++ (List.range vs.length).map fun (i : Nat) => rawInt ((vs.length : Int) - (i : Int))).toArray } : Obj), g, d, tk, os⟩
  rw [z2]
  refine h _ h1.objs.size (h1.objs.size + 1) ?_ ?_ z1 (Nat.le_succ_of_le z1) (Nat.ne_of_lt (Nat.lt_succ_self _)) fun b o e => Heap.get?_push_of_some _ (Heap.get?_push_of_some _ (k1 b o e))
  · rw [← z2]
    refine (Heap.get?_push_size _ rfl).trans ?_
    rw [en]
    simp
  · exact ⟨_, Heap.get?_push_of_some _ (Heap.get?_push_size _ rfl), rfl, _, rfl⟩
end
end Tp

set_option Elab.async false
set_option linter.all false
set_option maxRecDepth 100000
set_option maxHeartbeats 4000000
/-! Snd21: permutations, walked. -/
namespace Tp
open PySem PySem.Spec L2
def permSt (n : Nat) (st : List Nat × List Nat) : Nat → Option (List Nat × List Nat)
  | 0 => some st
  | i + 1 => (permSt n st i).bind fun s => nxtP n n s.1 s.2
theorem permSt_len {n : Nat} {st : List Nat × List Nat} (h1 : st.1.length = n) (h2 : st.2.length = n) : ∀ {i : Nat} {s : List Nat × List Nat}, permSt n st i = some s → s.1.length = n ∧ s.2.length = n
  | 0, s, e => by cases e; exact ⟨h1, h2⟩
  | i + 1, s, e => by
    cases q : permSt n st i with
    | none => rw [permSt, q] at e; cases e
    | some r =>
      rw [permSt, q] at e
      obtain ⟨a, b⟩ := permSt_len h1 h2 q
      obtain ⟨c, d⟩ := nxtP_len (ix' := s.1) (cy' := s.2) e (Nat.le_of_eq a.symm) a
      exact ⟨c, d.trans b⟩
theorem permSt_shift {n : Nat} {st s1 : List Nat × List Nat} (h : nxtP n n st.1 st.2 = some s1) : ∀ i, permSt n st (i + 1) = permSt n s1 i
  | 0 => by show (some st).bind _ = _; exact h
  | i + 1 => by
    show (permSt n st (i + 1)).bind _ = _
    rw [permSt_shift h i]
    rfl
/-- the indices, in the order -/
def permGo (n : Nat) : Nat → List Nat × List Nat → List (List Nat)
  | 0, _ => []
  | f + 1, st => st.1 :: match nxtP n n st.1 st.2 with
    | some s => permGo n f s
    | none => []
def permOk (n : Nat) : Nat → List Nat × List Nat → Bool
  | 0, _ => false
  | f + 1, st => match nxtP n n st.1 st.2 with
    | some s => permOk n f s
    | none => true
theorem permGo_get {n : Nat} : ∀ {f : Nat} {st : List Nat × List Nat}, permOk n f st = true → ∀ i, (permGo n f st)[i]? = (permSt n st i).map (·.1)
  | 0, _, h, _ => by cases h
  | f + 1, st, h, 0 => by simp [permGo, permSt]
  | f + 1, st, h, i + 1 => by
    unfold permOk at h
    unfold permGo
    cases q : nxtP n n st.1 st.2 with
    | none =>
      rw [q] at h
      have gen : ∀ j, permSt n st (j + 1) = none := fun j => by
        induction j with
        | zero => show (some st).bind _ = _; exact q
        | succ j ih => show (permSt n st (j + 1)).bind _ = _; rw [ih]; rfl
      rw [gen i]
      simp
    | some s =>
      rw [q] at h
      rw [permSt_shift q i, List.getElem?_cons_succ]
      exact permGo_get h i
def permI (n : Nat) : List Nat × List Nat := (List.range n, (List.range n).map fun i => n - i)
theorem permI_ok : ∀ n, n ≤ 5 → permOk n 200 (permI n) = true := by decide +kernel
/-- permutations(x), a list of five at most -/
def iPerm (f : EF) : LF := fun ρ B => (f ρ B).bind fun d B => match d with
  | .list xs => if xs.length ≤ 5 then .ok ((permGo xs.length 200 (permI xs.length)).map fun ix => .tuple (ix.map fun i => xs.getD i .none)) B else .bad
  | _ => .bad
def ItP (n : Nat) (vs : List V) : It :=
  ⟨fun i _ => ∃ s, permSt n (permI n) i = some s, fun i H v H' => ∃ T o s, permSt n (permI n) i = some s ∧ v = .ref T ∧ H T = none ∧ TO o ∧ H' = upd H T (.frz o (.tup (s.1.map fun k => vs.getD k .non))), fun i _ => permSt n (permI n) i = none⟩
theorem vals_pick {vs : List V} {us : List Value} (r : Vals vs us) : ∀ ix : List Nat, Vals (ix.map fun k => vs.getD k .non) (ix.map fun k => us.toArray.getD k .none)
  | [] => .nil
  | k :: ix => by
    refine .cons ?_ (vals_pick r ix)
    show RelV (vs.getD k .non) (us.toArray.getD k .none)
    rw [List.getD_eq_getElem?_getD, show us.toArray.getD k .none = (us[k]?).getD .none by simp [Array.getD_eq_getD_getElem?]]
    cases q : vs[k]? with
    | none => rw [r.none_of q]; rfl
    | some x =>
      obtain ⟨u, e, h⟩ := r.get q
      rw [e]
      exact h
def PermT (n : Nat) (it pool : Addr) (us : List Value) (i : Nat) (h : Heap) : Prop :=
  (∃ j s flag last, permSt n (permI n) j = some s ∧ ((i = 0 ∧ j = 0 ∧ flag = 0) ∨ (i = j + 1 ∧ flag = 1)) ∧ IsPerm h it pool flag n last (s.1 ++ s.2)) ∧ h.IsTuple pool us.toArray ∧ pool ≠ it
theorem perm_turn {P : Program} {w : World} {K : PySem.W.Frag} {tg : Expr} {n : Nat} {it pool : Addr} {vs : List V} {us : List Value} (rv : Vals vs us) (hn : us.length = n) (hz : n ≤ 100) : Turn P w K tg (ItP n vs) [it, pool] it (PermT n it pool us) where
  mem := List.mem_cons_self ..
  obj := fun i h st b hb => by
    obtain ⟨⟨j, s, flag, last, h1, h2, h3⟩, ⟨o, ho, hc, k, hd⟩, _⟩ := st
    rcases List.mem_cons.mp hb with rfl | hb
    · exact ⟨_, h3, fun v q => nomatch q⟩
    · rw [List.mem_singleton.mp hb]
      exact ⟨o, ho, fun v q => by rw [hd] at q; cases q⟩
  keep := fun i h h' st k => by
    obtain ⟨⟨j, s, flag, last, h1, h2, h3⟩, ht, hne⟩ := st
    exact ⟨⟨j, s, flag, last, h1, h2, k it (List.mem_cons_self ..) _ h3⟩, ht.at fun o q => k pool (List.mem_cons_of_mem _ (List.mem_singleton_self _)) o q, hne⟩
  item := by
    rintro X rfl rfl rfl hc i pins s σ H E I hf ⟨⟨j, st, flag, last, h1, h2, h3⟩, ht, hne⟩ ⟨st', hgo⟩
    have li : (permI n).1.length = n := by simp [permI]
    have li2 : (permI n).2.length = n := by simp [permI]
    obtain ⟨l1, l2⟩ := permSt_len li li2 h1
    obtain ⟨l1', _⟩ := permSt_len li li2 hgo
    have lti : it < s.heap.objs.size := Heap.lt_size h3
    have ltp : pool < s.heap.objs.size := by obtain ⟨_, q, _⟩ := ht; exact Heap.lt_size q
    have hs : (flag = 0 ∧ st'.1 = st.1 ∧ st'.2 = st.2) ∨ (flag = 1 ∧ nxtP n n st.1 st.2 = some (st'.1, st'.2)) := by
      rcases h2 with ⟨rfl, rfl, rfl⟩ | ⟨rfl, rfl⟩
      · rw [hgo] at h1; cases h1; exact .inl ⟨rfl, rfl, rfl⟩
      · refine .inr ⟨rfl, ?_⟩
        have : (permSt n (permI n) j).bind (fun s => nxtP n n s.1 s.2) = some st' := hgo
        rw [h1] at this
        exact this
    refine perm_item h3 ht (by rw [List.size_toArray]; exact hn) l1 l2 hs l1' hz fun h' a1 a2 a3 => ⟨_, rfl, ?_⟩
    refine go_of a1 rfl rfl (by decide) ?_
    have nT : H s.heap.objs.size = none := I.hok.fresh (Nat.le_refl _)
    have new : ObjOk X.prog X.w (upd H s.heap.objs.size (.frz { cls := .type "tuple", data := .seq (st'.1.map fun i => us.toArray.getD i .none).toArray } (.tup (st'.1.map fun k => vs.getD k .non)))) h' s.heap.objs.size (.frz { cls := .type "tuple", data := .seq (st'.1.map fun i => us.toArray.getD i .none).toArray } (.tup (st'.1.map fun k => vs.getD k .non))) :=
      ⟨a2, by rw [List.length_map, l1']; exact small_n (by omega), _, vals_pick rv st'.1, ⟨_, a2, rfl, _, rfl⟩⟩
    have I1 := I.turnedNew (ch := [it, pool]) (t' := s.toks) (fun b ob hb q => a3 b ob (fun z => hb (by simp [z])) q) hf (Nat.le_refl _) new
    refine ⟨.ref s.heap.objs.size, _, I1, rfl, ⟨_, _, st', hgo, rfl, nT, ⟨rfl, rfl⟩, rfl⟩, ⟨⟨i, st', 1, _, hgo, .inr ⟨rfl, rfl⟩, a1⟩, ht.at fun o q => a3 pool o hne q, hne⟩, fun b hb => ?_⟩
    have ltb : b < s.heap.objs.size := by
      rcases List.mem_cons.mp hb with rfl | hb
      · exact lti
      · rw [List.mem_singleton.mp hb]; exact ltp
    rw [upd_ne (Nat.ne_of_lt ltb)]
    exact (hf b hb).1
  done := by
    rintro X rfl rfl rfl hc i pins s σ H E I hf ⟨⟨j, st, flag, last, h1, h2, h3⟩, ht, hne⟩ hstop
    have li : (permI n).1.length = n := by simp [permI]
    have li2 : (permI n).2.length = n := by simp [permI]
    obtain ⟨l1, l2⟩ := permSt_len li li2 h1
    rcases h2 with ⟨rfl, rfl, rfl⟩ | ⟨rfl, rfl⟩
    · rw [show permSt n (permI n) 0 = none from hstop] at h1; cases h1
    · have hx : nxtP n n st.1 st.2 = none := by
        have : (permSt n (permI n) j).bind (fun s => nxtP n n s.1 s.2) = none := hstop
        rw [h1] at this
        exact this
      obtain ⟨f0, f1, f2, f3, f4, f5⟩ := hf it (List.mem_cons_self ..)
      exact perm_end (I.ok.hd hc) h3 ht (by rw [List.size_toArray]; exact hn) l1 l2 hx fun h' eb => ⟨rfl, I.turned (t' := s.toks) (fun b o hb q => eb b o hb q) f0 f1 f3 f4 f5⟩
  self := fun A i s Q E st h => let ⟨⟨_, _, _, _, _, _, h3⟩, _⟩ := st; perm_iter h3 h
def tPermI (K : PySem.W.Frag) (ta : L2.TA) : TI := fun σ H R => ta σ H fun vs H1 => ∃ a xs, vs = [.ref a] ∧ SqL K H1 a xs ∧ xs.length ≤ 100 ∧ R (ItP xs.length xs) H1
section
variable {X : Cx} {K : PySem.W.Frag} {tg e c : Expr} {f g : EF} {l : LF} {p pos : Pos} {x : Str}
theorem pi_perm {ta : L2.TA} (hg : Gl X x) (hm : X.mg x = some (.type "itertools.permutations")) (hd : (x == ("__debug__" : Str)) = false) (ha : PA X [e] ta) (hs : starEach [e] X.env = [(false, eval e X.env)]) : PI X tg (.Call (.Name x p) [e] [] pos) (tPermI X.K ta) := by
  constructor
  intro pins s σ H R I h
  refine PyProof.Rows.Call_ (ld_glob I hg hm (PyProof.Rows.callWith_type1 (thn (ha.run pos pins s σ H _ I h) ?_) hs rfl) hd)
  rintro us s1 ⟨vs, H1, I1, r1, a, xs, rfl, hq, hl, q⟩
  obtain ⟨u, rfl, r⟩ := vals1 r1
  cases r
  obtain ⟨its, rv, pt, hz⟩ := I1.list hq
  have hlen : its.length = xs.length := rv.length.symm
  refine callType_codes (Q₁ := fun obj z => z.TypeIs obj "itertools.permutations" ∧ wpAny (model X.prog X.w) X.A (pyIter obj) (PIE X pins σ tg R) X.xe z) pm_called (pm_tcall _) F.entry_object_init
    (perm_code (A := X.A.in1) pt.isList (by omega) fun h' pool it a1 a2 a3 a4 a5 a6 => ⟨⟨_, a1, rfl⟩, perm_iter a1 ?_⟩) fun obj z h₁ => ⟨h₁.1, F.args_object_init_2 obj _, object_init_meets pm_called.init.lookup pm_called.made (by decide) X.prog X.w X.A.in1 _ z ⟨h₁.1, rfl, h₁.2⟩⟩
  have I2 : Inv X pins σ H1 { s1 with heap := h' } := I1.kept (t' := s1.toks) a6
  rw [hlen] at a1
  refine ⟨it, [it, pool], _, _, H1, rfl, I2, perm_turn rv hlen hl, ⟨⟨0, permI xs.length, 0, .none, rfl, .inl ⟨rfl, rfl, rfl⟩, a1⟩, a2, a5⟩, fun b hb => ?_, q⟩
  have hle : s1.heap.objs.size ≤ b := by
    rcases List.mem_cons.mp hb with rfl | hb
    · exact a4
    · rw [List.mem_singleton.mp hb]; exact a3
  exact I1.fpOk hle (I1.hok.fresh hle)
theorem getD_rel {F : Hp} {vs : List V} {xs : List PyData} (r : RpL K F vs xs) (k : Nat) : Rp K F (vs.getD k .non) (xs.getD k .none) := by
  rw [List.getD_eq_getElem?_getD, List.getD_eq_getElem?_getD]
  cases q : xs[k]? with
  | none =>
    have : vs[k]? = none := by rw [List.getElem?_eq_none_iff] at q ⊢; rw [r.length]; exact q
    rw [this]
    exact .non
  | some y =>
    obtain ⟨v, e, h⟩ := r.get q
    rw [e]
    exact h
theorem pick_rel {F : Hp} {vs : List V} {xs : List PyData} (r : RpL K F vs xs) : ∀ ix : List Nat, RpL K F (ix.map fun k => vs.getD k .non) (ix.map fun k => xs.getD k .none)
  | [] => .nil
  | k :: ix => .cons (getD_rel r k) (pick_rel r ix)
theorem wk_perm {b : Addr} {F : Hp} {vs : List V} {xs : List PyData} (r : RpL K F vs xs) (hl : xs.length ≤ 5) (hz : ((permGo xs.length 200 (permI xs.length)).map fun ix => PyData.tuple (ix.map fun i => xs.getD i .none)).length ≤ lim) :
    WkS K false b F (ItP xs.length vs) ((permGo xs.length 200 (permI xs.length)).map fun ix => .tuple (ix.map fun i => xs.getD i .none)) := ⟨hz, fun i F1 H1 B s k => by
  have hg := permGo_get (permI_ok xs.length hl) i
  refine ⟨fun d e => ?_, fun hle => ?_⟩
  · rw [List.getElem?_map, hg] at e
    cases q : permSt xs.length (permI xs.length) i with
    | none => rw [q] at e; cases e
    | some st =>
      rw [q] at e
      cases e
      refine ⟨⟨st, q⟩, fun u H2 ⟨T, o, st', q', e1, nT, t, e2⟩ => ?_⟩
      rw [q] at q'
      cases q'
      subst e1 e2
      obtain ⟨x2, k2⟩ := Ext.new (o := .frz o (.tup (st.1.map fun k => vs.getD k .non))) k nT
      exact ⟨_, x2, k2, .inl (.tup (.new t) (pick_rel ((r.mono s).mono x2.fr) st.1))⟩
  · rw [List.length_map] at hle
    have : (permGo xs.length 200 (permI xs.length))[i]? = none := List.getElem?_eq_none_iff.mpr hle
    rw [this] at hg
    cases q : permSt xs.length (permI xs.length) i with
    | none => exact q
    | some st => rw [q] at hg; cases hg⟩
theorem permGo_len (n : Nat) : ∀ f st, (permGo n f st).length ≤ f
  | 0, _ => Nat.le_refl _
  | f + 1, st => by
    unfold permGo
    rw [List.length_cons]
    cases nxtP n n st.1 st.2 with
    | none => simp
    | some s => have := permGo_len n f s; simp only; omega
theorem z_perm (hm : X.mg x = some (.type "itertools.permutations")) (ha : ZB X e f) (hg : Gl X x := by rfl) (hd : (x == ("__debug__" : Str)) = false := by decide) (hs1 : starEach [e] X.env = (false, eval e X.env) :: starEach [] X.env := by rfl) (hs : starEach [e] X.env = [(false, eval e X.env)] := by rfl) : ZIe X false tg (.Call (.Name x p) [e] [] pos) (iPerm f) :=
  (pi_perm hg hm hd (pa_cons ha pa_nil hs1) hs).zimp fun σ H RR ⟨b, F, ρ, B, xs, B', k, lr, e, q⟩ => by
  obtain ⟨d, B1, e1, e⟩ := R.bind_ok e
  cases d <;> simp only at e <;> first | (cases e; done) | skip
  rename_i ds
  split at e <;> first | (cases e; done) | skip
  rename_i hz
  cases e
  have h2 : ((permGo ds.length 200 (permI ds.length)).map fun ix => PyData.tuple (ix.map fun i => ds.getD i .none)).length ≤ lim := by
    rw [List.length_map]
    have := permGo_len ds.length 200 (permI ds.length)
    have := small_n (n := 200) (by decide)
    show _ ≤ sizeLine
    omega
  refine eb_step k lr e1 fun v F1 H1 x1 k1 l1 r1 => ?_
  rcases r1 with r1 | ⟨p, vs, l', h1, h2', h3, h4, h5, h6⟩ | ⟨p, kvs, vs, h1, h2', h3, h4, h5, h6⟩
  · cases r1 with
    | lst s r =>
      refine ⟨_, _, rfl, SqL.of (k1.same _ _ s), by rw [r.length]; omega, ?_⟩
      rw [r.length]
      exact q _ F1 H1 x1 k1 (wk_perm r hz h2).e
  · cases h6
    subst h1
    refine ⟨p, vs, rfl, SqL.of h4, by rw [h5.length]; omega, ?_⟩
    rw [h5.length]
    exact q _ F1 H1 x1 k1 (wk_perm h5 hz h2).e
  · cases h6
end
end Tp

set_option Elab.async false
set_option linter.all false
set_option maxRecDepth 100000
set_option maxHeartbeats 4000000
/-! Snd22: the law's bag. -/
namespace Tp
open PySem PySem.Spec L2
def Bag.get (B : Bag) : Nat → Int
  | 0 => B.x
  | 1 => B.y
  | _ => B.z
def Bag.put (B : Bag) : Nat → Int → Bag
  | 0, v => { B with x := v }
  | 1, v => { B with y := v }
  | _, v => { B with z := v }
/-- bag[k], the bag in slot i -/
def eBg (i k : Nat) : EF := fun ρ B => match ρ[i]? with
  | some .bg => .ok (.int (B.get k)) B
  | _ => .bad
/-- bag[k] = a number -/
def sBgSet (i k : Nat) (f : EF) : SF := fun ρ B => toS (f ρ B) fun d B => match ρ[i]?, d with
  | some .bg, .int v => .nx ρ (B.put k v)
  | _, _ => .bad
/-- bag[0], digit = divmod(bag[0], top) -/
def sBgDiv (i j : Nat) (f : EF) : SF := fun ρ B => match ρ[i]? with
  | some .bg => toS (f ρ B) fun d B1 => match d with
    | .int t => if decide (0 < t ∧ t < 1073741824) then .nx (ρ.set j (.fz (.int (B.x % t)))) (B1.put 0 (B.x / t)) else .bad
    | _ => .bad
  | _ => .bad
section
variable {K : PySem.W.Frag} {b : Addr} {F0 H0 F H : Hp} {ρ : Env} {σ : L2.St} {B B' : Bag}
theorem Ok.bag (k : Ok b F H B) : Ext b F H F (upd H b (.lst (bagL B'))) ∧ Ok b F (upd H b (.lst (bagL B'))) B' := by
  refine ⟨⟨Same.refl F, fun a o na h => by rw [upd_ne na]; exact h, fun a na h _ => h⟩, ⟨fun a o h => ?_, k.fb, upd_same⟩⟩
  have : a ≠ b := fun z => by rw [z, k.fb] at h; cases h
  rw [upd_ne this]
  exact k.same _ _ h
theorem SI.bag (s : SI K b F0 H0 F H ρ σ B) (B' : Bag) : SI K b F0 H0 F (upd H b (.lst (bagL B'))) ρ σ B' := s.go s.ok.bag.1 s.ok.bag.2
theorem bag_at (B : Bag) (k : Nat) (h : k < 3) : L2.atI (bagL B) (k : Int) = some (.int (B.get k)) := by
  match k, h with
  | 0, _ => rfl
  | 1, _ => rfl
  | 2, _ => rfl
theorem bag_put (B : Bag) (k : Nat) (v : Int) (h : k < 3) : (bagL B).set k (.int v) = bagL (B.put k v) := by
  match k, h with
  | 0, _ => rfl
  | 1, _ => rfl
  | 2, _ => rfl
end
section
variable {X : Cx} {e a c : Expr} {f g : EF} {i j k kk kt : Nat} {p p2 p3 pos px pt : Pos} {x y : Str}
theorem z_bg (hN : X.N[i]? = some x := by rfl) (hv : Vis X.env.scope x := by first | exact Or.inl rfl | exact Or.inr (Or.inl rfl) | exact Or.inr (Or.inr rfl)) (hk : k < 3 := by decide) (hd : (x == ("__debug__" : Str)) = false := by decide) (hcd : (x == ("__classdict__" : Str)) = false := by decide)
    (hs : PlainIx (.Constant (.int (k : Nat)) kk p2) := by exact fun _ _ => rfl) : ZE X (.Subscript (.Name x p) (.Constant (.int (k : Nat)) kk p2) pos) (eBg i k) := (pe_ix ix_seq (pe_var hN hv hd hcd) pe_int hs).zimp fun σ H Q ⟨b, F, ρ, B, ok, lr, q⟩ => by
  unfold eBg at q
  cases hr : ρ[i]? with
  | none => rw [hr] at q; exact q.elim
  | some sl =>
    cases sl <;> rw [hr] at q <;> first | exact q.elim | skip
    have sb := lr.at_ i _ hr
    exact ⟨_, sb, .inl ⟨b, bagL B, k, _, rfl, rfl, SqL.of ok.hb, bag_at B k hk, q _ F H .refl ok (.int _)⟩⟩
theorem z_bgSet (he : ZE X e f) (hN : X.N[i]? = some x := by rfl) (hk : k < 3 := by decide) (hv : Vis X.env.scope x := by first | exact Or.inl rfl | exact Or.inr (Or.inl rfl) | exact Or.inr (Or.inr rfl)) (hd : (x == ("__debug__" : Str)) = false := by decide) (hcd : (x == ("__classdict__" : Str)) = false := by decide)
    (ha : ∀ v, assign (.Subscript (.Name x p) (.Constant (.int (k : Nat)) kk p2) p3) X.env v = (do
      let ov ← holding [v] (eval (.Name x p) X.env)
      let iv ← holding [v, ov] (eval (.Constant (.int (k : Nat)) kk p2) X.env)
      standAt p3
      holding [v, ov, iv] (setItem ov iv v)
      release [v, ov, iv] []) := by intro _; rfl)
    (hs : swapsWithSole [.Subscript (.Name x p) (.Constant (.int (k : Nat)) kk p2) p3] e pos.line X.env = pure false := by rfl) (hw : swappedStores [.Subscript (.Name x p) (.Constant (.int (k : Nat)) kk p2) p3] e X.env = pure none := by rfl)
    (h1 : (assignEach [.Subscript (.Name x p) (.Constant (.int (k : Nat)) kk p2) p3] X.env).map (·.2) = [assign (.Subscript (.Name x p) (.Constant (.int (k : Nat)) kk p2) p3) X.env] := by rfl) :
    ZS X (.Assign [.Subscript (.Name x p) (.Constant (.int (k : Nat)) kk p2) p3] e pos) (sBgSet i k f) := (ps_asg he (pg_sub (pe_var hN hv hd hcd) pe_int set_list ha) hs hw h1).zimp fun D σ H ⟨b, F0, H0, F, ρ, B, si, q⟩ => by
  obtain ⟨d, B1, e1, q⟩ := toS_ok q
  refine ev_step si.ok si.lr e1 fun v F1 H1 x1 k1 l r => ?_
  cases hr : ρ[i]? with
  | none => rw [hr] at q; exact q.elim
  | some sl =>
    cases sl <;> rw [hr] at q <;> first | exact q.elim | skip
    cases d <;> simp only at q <;> first | exact q.elim | skip
    rename_i n
    have sb := l.at_ i _ hr
    cases r
    refine ⟨_, sb, b, bagL B1, k, k, rfl, rfl, k1.hb, ?_, ?_⟩
    · match k, hk with
      | 0, _ => rfl
      | 1, _ => rfl
      | 2, _ => rfl
    · rw [bag_put B1 k n hk]
      exact q F1 _ σ ((si.go x1 k1).bag _) x1.fr
theorem z_bgDiv {kl : Nat} {pd pb : Pos} (hc : X.calm = true) (hNd : X.N.Nodup) (hm : X.mg "divmod" = none) (he : ZE X e f) (hN : X.N[i]? = some x := by rfl) (hj : X.N[j]? = some y := by rfl) (hv : Vis X.env.scope x := by first | exact Or.inl rfl | exact Or.inr (Or.inl rfl) | exact Or.inr (Or.inr rfl))
    (hx : Loc X.env.scope y := by first | exact Or.inl rfl | exact Or.inr rfl) (hf : X.fn y = true ∨ X.env.scope.names.lookup y = some .local := by first | exact .inl rfl | exact .inr rfl | assumption) (hd : (x == ("__debug__" : Str)) = false := by decide) (hcd : (x == ("__classdict__" : Str)) = false := by decide) (hij : i ≠ j := by decide)
    (hg : Gl X "divmod" := by rfl) (hps : PlainIx (.Constant (.int 0) kl pb) := by exact fun _ _ => rfl)
    (hs1 : starEach [e] X.env = (false, eval e X.env) :: starEach [] X.env := by rfl) (hs2 : starEach [.Subscript (.Name x px) (.Constant (.int 0) kl pb) pd, e] X.env = (false, eval (.Subscript (.Name x px) (.Constant (.int 0) kl pb) pd) X.env) :: starEach [e] X.env := by rfl) (hpl : (backTo pt (starEach [e] X.env)).any (·.1) = false := by rfl)
    (ha : ∀ v, assign (.Subscript (.Name x p) (.Constant (.int 0) kk p2) p3) X.env v = (do
      let ov ← holding [v] (eval (.Name x p) X.env)
      let iv ← holding [v, ov] (eval (.Constant (.int 0) kk p2) X.env)
      standAt p3
      holding [v, ov, iv] (setItem ov iv v)
      release [v, ov, iv] []) := by intro _; rfl) {kz : Nat} {pz pn py : Pos}
    (hn : (assignEach [.Subscript (.Name x p) (.Constant (.int 0) kk p2) p3, .Name y py] X.env).length = 2 := by rfl) (hst : (assignEach [.Subscript (.Name x p) (.Constant (.int 0) kk p2) p3, .Name y py] X.env).findIdx? (·.1) = none := by rfl)
    (hA1 : (assignEach [.Subscript (.Name x p) (.Constant (.int 0) kk p2) p3, .Name y py] X.env).map (·.2) = assign (.Subscript (.Name x p) (.Constant (.int 0) kk p2) p3) X.env :: (assignEach [.Name y py] X.env).map (·.2) := by rfl) (hA2 : (assignEach [.Name y py] X.env).map (·.2) = assign (.Name y py) X.env :: (assignEach [] X.env).map (·.2) := by rfl)
    (hs : swapsWithSole [.Tuple [.Subscript (.Name x p) (.Constant (.int 0) kk p2) p3, .Name y py] kz pz] (.Call (.Name "divmod" pn) [.Subscript (.Name x px) (.Constant (.int 0) kl pb) pd, e] [] pt) pos.line X.env = pure false := by rfl) (hw : swappedStores [.Tuple [.Subscript (.Name x p) (.Constant (.int 0) kk p2) p3, .Name y py] kz pz] (.Call (.Name "divmod" pn) [.Subscript (.Name x px) (.Constant (.int 0) kl pb) pd, e] [] pt) X.env = pure none := by rfl)
    (h1 : (assignEach [.Tuple [.Subscript (.Name x p) (.Constant (.int 0) kk p2) p3, .Name y py] kz pz] X.env).map (·.2) = [assign (.Tuple [.Subscript (.Name x p) (.Constant (.int 0) kk p2) p3, .Name y py] kz pz) X.env] := by rfl) :
    ZS X (.Assign [.Tuple [.Subscript (.Name x p) (.Constant (.int 0) kk p2) p3, .Name y py] kz pz] (.Call (.Name "divmod" pn) [.Subscript (.Name x px) (.Constant (.int 0) kl pb) pd, e] [] pt) pos) (sBgDiv i j f) :=
  (ps_asg (pe_callB call_divmod hg hm (by decide +kernel) (pa_cons (z_bg (i := i) (k := 0) hN hv (by decide) hd hcd hps) (pa_cons he pa_nil hs1) hs2) (by decide) (by decide) hs2 hpl) (pg_tup hc (pgs_cons (pg_sub (pe_var hN hv hd hcd) pe_int set_list ha) (pgs_cons (pg_name hNd hj hx hf) pgs_nil hA2) hA1) hn hst) hs hw h1).zimp fun D σ H ⟨b, F0, H0, F, ρ, B, si, q⟩ => by
  unfold sBgDiv at q
  cases hr : ρ[i]? with
  | none => rw [hr] at q; exact q.elim
  | some sl =>
    cases sl <;> rw [hr] at q <;> first | exact q.elim | skip
    obtain ⟨d, B1, e1, q⟩ := toS_ok q
    cases d <;> simp only at q <;> first | exact q.elim | skip
    rename_i t
    split at q <;> first | exact q.elim | skip
    rename_i hct
    have hct : 0 < t ∧ t < 1073741824 := of_decide_eq_true hct
    have e0 : eBg i 0 ρ B = .ok (.int B.x) B := by unfold eBg; rw [hr]; rfl
    refine ev_step si.ok si.lr e0 fun v0 F1 H1 x1 k1 l1 r1 => ev_step k1 l1 e1 fun v F2 H2 x2 k2 l2 r2 => ?_
    cases r1
    cases r2
    refine ⟨B.x, t, rfl, hct, fun P nP => ?_⟩
    obtain ⟨x3, k3⟩ := Ext.newO (o := .tup [.int (B.x / t), .int (B.x % t)]) k2 nP
    have s3 := ((si.go x1 k1).go x2 k2).go x3 k3
    have sb := (s3.lr).at_ i _ hr
    refine ⟨P, _, rfl, SqT.of upd_same, rfl, _, _, rfl, ?_⟩
    refine ⟨_, sb, b, bagL B1, 0, 0, rfl, rfl, k3.hb, rfl, ?_⟩
    rw [bag_put B1 0 (B.x / t) (by decide)]
    refine ⟨_, _, rfl, rfl, ?_⟩
    exact q _ _ _ ((s3.bag _).set j (.int _)) ((x1.fr.trans x2.fr).trans x3.fr)
end
end Tp

set_option Elab.async false
set_option linter.all false
set_option maxRecDepth 100000
set_option maxHeartbeats 4000000
/-! Snd23: set(x) of a list of whole numbers. -/
namespace Tp
open PySem PySem.Spec PyProof.Rows
section
variable {P : Program} {w : World} {A : Around} {E : Value → Shared → Prop} {z : Shared}
theorem set_of_listI {la : Addr} {us : Array Value} (ks : List Int) {Q : Value → Shared → Prop} (nh : A.handled = none) (isL : z.heap.IsList la us) (are : IntsAre us.toList ks) (few : ks.length + 1 < scanBound)
    (done : ∀ (hp' : Heap) (tk cc : Nat), L2.SetR w hp' z.heap.objs.size (fun j => decide (j ∈ ks)) cc → cc ≤ ks.length → (∀ b o, z.heap.get? b = some o → hp'.get? b = some o) → Q (.ref z.heap.objs.size) { z with heap := hp', toks := tk }) :
    wpAny (model P w) A (call (.type "set") [.ref la]) Q E z := by
  have sz : us.size = ks.length := by
    have qe := IntsAre.length are
    rw [Array.length_toList] at qe
    exact qe
  obtain ⟨cc, rs, mro⟩ := F.called_set.mro
  have made := F.called_set.made
  have sub := F.called_set.sub
  refine wpAny_call (codeAny_of_tree ?_)
  show wpAny _ _ (callAny (.type "set") _) _ _ _
  refine wpAny_pure ⟨Code.quiet_builtin _ (by decide +kernel), codeAny_builtin F.entry_type_call ?_⟩
  rw [Around.under_plain (weight_type_call_type "set" [.ref la] []) rfl]
  have g1 := F.called_set.notType
  have g2 := F.called_set.canCreate
  have gct := F.typeCall_set_1 (.ref la)
  repeat (any_goals (first | assumption | wp_step))

  refine codeAny_mono (L2.code_set_led1 (.ref la) (E := E) (Q₁ := fun made0 z1 => made0 = .ref z.heap.objs.size ∧ z1 = { z with heap := z.heap.push { cls := .type "set", dict := none, data := .set #[] 0 (.fresh 0 0 (!w.params.followText "set-order")) } }) ⟨rfl, rfl⟩) fun r z1 res => ?_
  cases r with
  | error e => exact res
  | ok fin =>
    cases fin with
    | ret made0 =>
      obtain ⟨rfl, rfl⟩ := res
      have atS : (z.heap.push { cls := .type "set", dict := none, data := .set #[] 0 (.fresh 0 0 (!w.params.followText "set-order")) }).get? z.heap.objs.size = some { cls := .type "set", dict := none, data := .set #[] 0 (.fresh 0 0 (!w.params.followText "set-order")) } := Heap.get?_push_size _ rfl
      have tyS : Shared.TypeIs { z with heap := z.heap.push { cls := .type "set", dict := none, data := .set #[] 0 (.fresh 0 0 (!w.params.followText "set-order")) } } (.ref z.heap.objs.size) "set" := ⟨_, atS, rfl⟩
      have ini := F.called_set.init.lookup
      have bnd := F.called_set.init.bind (.ref z.heap.objs.size)
      repeat (any_goals (first | assumption | wp_step))

      refine codeAny_mono (codeAny_call_builtin (R := wants (fun r z2 => r = .none ∧ ∃ hp' tk cc, z2 = { z with heap := hp', toks := tk } ∧ L2.SetR w hp' z.heap.objs.size (fun j => decide (j ∈ ks)) cc ∧ cc ≤ ks.length ∧
          (∀ b o, z.heap.get? b = some o → hp'.get? b = some o)) E) F.called_set.init.plain F.entry_set_init (check_set_init_1 tyS ?_)) fun r2 z2 res2 => ?_
      · obtain ⟨ob, at0, cl0, n0, dt0⟩ := isL
        obtain ⟨c0, d0, t0, l0⟩ := ob
        simp only at cl0 dt0
        subst cl0; subst dt0
        have at1 : (z.heap.push { cls := .type "set", dict := none, data := .set #[] 0 (.fresh 0 0 (!w.params.followText "set-order")) }).get? la = some { cls := .type "list", dict := d0, data := .seq us n0, slots := l0 } := Heap.get?_push_of_some _ at0
        have su1 := F.sub_list_set
        have su2 := F.sub_list_frozenset
        have nd1 : (Value.type "list" == Value.type "dict") = false := by decide
        have isL1 : (z.heap.push { cls := .type "set", dict := none, data := .set #[] 0 (.fresh 0 0 (!w.params.followText "set-order")) }).IsList la us := ⟨_, at1, rfl, n0, rfl⟩
        unfold Builtin.«set.__init__» noKeywords Builtin.Frozenset.updateFrom
        generalize eIT : pyIter = IT
        wp_walk
        subst eIT

        refine wpAny_pyIter_list isL1 ?_
        refine wpAny_bind (wpAny_runValue ?_)
        have ltS : la < z.heap.objs.size := Heap.lt_size at0
        have nh3 : A.in1.in1.in1.handled = none := by simp [nh]
        have sz1 : (z.heap.push { cls := .type "set", dict := none, data := .set #[] 0 (.fresh 0 0 (!w.params.followText "set-order")) }).objs.size = z.heap.objs.size + 1 := Heap.size_push ..
        have neI : la ≠ (z.heap.push { cls := .type "set", dict := none, data := .set #[] 0 (.fresh 0 0 (!w.params.followText "set-order")) }).objs.size := by
          rw [Heap.size_push]; exact Nat.ne_of_lt (Nat.lt_succ_of_lt ltS)
        have neS : z.heap.objs.size ∉ [(z.heap.push { cls := .type "set", dict := none, data := .set #[] 0 (.fresh 0 0 (!w.params.followText "set-order")) }).objs.size, la] := by
          rw [Heap.size_push]; simp only [List.mem_cons, List.mem_singleton, List.not_mem_nil, or_false, not_or]
          exact ⟨Nat.ne_of_lt (Nat.lt_succ_self _), Nat.ne_of_gt ltS⟩
        have vals : ∀ (i : Nat) (v : Value), us[i]? = some v → ∃ k t, ks[i]? = some k ∧ v = .int k t := fun i v hv => by
          have ltI : i < ks.length := by rw [← sz]; exact (Array.getElem?_eq_some_iff.mp hv).1
          obtain ⟨t, e⟩ := PyProof.Rows.IntsAre.int_at are i v (by rw [Array.getElem?_toList]; exact hv)
          refine ⟨ks[i], t, List.getElem?_eq_getElem ltI, ?_⟩
          rw [e, List.getD_eq_getElem?_getD, List.getElem?_eq_getElem ltI] <;> rfl
        refine L2.set_update_ints ((Walks.list nh3 _ la neI us).toS) z.heap.objs.size
          neS ks sz few vals (us.size - 0) 0 _ (by omega) (Nat.zero_le _)
          ⟨⟨_, Heap.get?_push_size _ rfl, rfl, rfl⟩, (isL1.push _)⟩ ?hS0 ?hR
        case hS0 =>
          have getS : ((z.heap.push { cls := .type "set", dict := none, data := .set #[] 0 (.fresh 0 0 (!w.params.followText "set-order")) }).push { cls := .type "list_iterator", data := .fields #[.ref la, .int 0 0] }).get? z.heap.objs.size
              = some { cls := .type "set", dict := none, data := .set #[] 0 (.fresh 0 0 (!w.params.followText "set-order")) } := Heap.get?_push_of_some _ atS
          exact ⟨0, Nat.le_refl 0, L2.setR_new_at getS⟩
        case hR =>
          intro z' k' mv kc' atS'
          obtain ⟨hp', gn, dr', tk2, os2⟩ := z'
          have e1 : gn = z.gens := mv.gens
          have e2 : dr' = z.drawn := mv.drawn
          have e3 : os2 = z.os := mv.os
          subst e1; subst e2; subst e3
          show wpAny _ _ _ _ _ _
          refine wpAny_pure ?_
          show wpAny _ _ (ret Value.none) _ _ _
          rw [sz] at kc'
          refine wpAny_pure ⟨rfl, hp', tk2, k', rfl, atS', kc', fun b o e => ?_⟩
          have b0 : b < z.heap.objs.size := Heap.lt_size e
          have b1 : b ≠ z.heap.objs.size := Nat.ne_of_lt b0
          have b2 : b ≠ (z.heap.push { cls := .type "set", dict := none, data := .set #[] 0 (.fresh 0 0 (!w.params.followText "set-order")) }).objs.size := by
            rw [Heap.size_push]; exact Nat.ne_of_lt (Nat.lt_succ_of_lt b0)
          exact mv.heap b o (by simp only [List.mem_cons, List.mem_singleton, List.not_mem_nil, or_false, not_or]; exact ⟨b1, b2⟩) (Heap.get?_push_of_some _ (Heap.get?_push_of_some _ e))

      · cases r2 with
        | error e => exact res2
        | ok fin2 =>
          cases fin2 with
          | ret r =>
            obtain ⟨rfl, hp', tk, k', rfl, atS', kc', kp'⟩ := res2
            repeat (any_goals (first | assumption | wp_step))
            exact done _ _ _ atS' kc' kp'
          | _ => exact res2.elim
    | _ => exact res.elim
end
end Tp

set_option Elab.async false
set_option linter.all false
set_option maxRecDepth 100000
set_option maxHeartbeats 4000000
/-! Snd24: len(set(x)), sorted(set(x)) of whole numbers. -/
namespace Tp
open PySem PySem.Spec L2
theorem ddI_mem : ∀ {ns : List Int} {k : Int}, k ∈ ddI ns ↔ k ∈ ns
  | [], _ => Iff.rfl
  | i :: r, k => by
    unfold ddI
    split
    · rename_i h
      have hi : i ∈ r := List.contains_iff_mem.mp h
      rw [ddI_mem, List.mem_cons]
      exact ⟨.inr, fun h => h.elim (fun e => e ▸ hi) id⟩
    · rw [List.mem_cons, List.mem_cons, ddI_mem]
theorem ddI_nodup : ∀ ns : List Int, (ddI ns).Nodup
  | [] => .nil
  | i :: r => by
    unfold ddI
    split
    · exact ddI_nodup r
    · rename_i h
      exact List.nodup_cons.mpr ⟨fun m => h (List.contains_iff_mem.mpr (ddI_mem.mp m)), ddI_nodup r⟩
theorem same_len {l m : List Int} (h1 : l.Nodup) (h2 : m.Nodup) (h : ∀ k, k ∈ l ↔ k ∈ m) : l.Perm m := (List.perm_ext_iff_of_nodup h1 h2).mpr h
theorem setR_size {w : World} {h : Heap} {a : Addr} {ns : List Int} {n : Nat} (R : L2.SetR w h a (fun j => decide (j ∈ ns)) n) : n = (ddI ns).length := by
  obtain ⟨o, es, ep, t, ho, hex, hd, g, nd, hm, hb, hf, hn, hr, hl⟩ := R
  have p : (es.toList.map L2.keyOf).Perm (ddI ns) := same_len nd (ddI_nodup ns) fun k => by
    rw [← hm k, ddI_mem, decide_eq_true_eq]
  rw [← hn, ← p.length_eq, List.length_map, Array.length_toList]
/-- set(x) -/
def rSetI (K : PySem.W.Frag) (w : World) : List V → Hp → VK → Prop := fun xs H Q => ∃ p ns, xs = [.ref p] ∧ (SqL K H p (ns.map V.int) ∨ SqT K H p (ns.map V.int)) ∧ ns.length < 1000 ∧ ∀ a, H a = none → Q (.ref a) (upd H a (SetO w a (fun j => decide (j ∈ ns)) (ddI ns).length))
section
variable {X : Cx} {K : PySem.W.Frag} {e a c : Expr} {es : List Expr} {f g : EF} {l : LF} {p p2 pos pos2 : Pos}
theorem call_setI (hc : X.calm = true) : CallR X (.type "set") (rSetI X.K X.w) := by
  intro pins s σ H xs us Q I r h
  obtain ⟨p, ns, rfl, hq, hl, q⟩ := h
  obtain ⟨u, rfl, rx⟩ := vals1 r
  cases rx
  have nh : X.A.handled = none := I.ok.hd hc
  have few : ns.length + 1 < scanBound := by unfold scanBound; omega
  have fin : ∀ (h' : Heap) (tk cc : Nat), L2.SetR X.w h' s.heap.objs.size (fun j => decide (j ∈ ns)) cc → cc ≤ ns.length → (∀ b o, s.heap.get? b = some o → h'.get? b = some o) → EP X pins σ Q (.ref s.heap.objs.size) { s with heap := h', toks := tk } := fun h' tk cc R _ k => by
    have e := setR_size R
    subst e
    exact ⟨.ref _, _, I.laid (t' := tk) k (Nat.le_refl _) (setO_new R), rfl, q _ (I.hok.fresh (Nat.le_refl _))⟩
  rcases hq with hq | hq
  · obtain ⟨its, rv, pt, hz⟩ := I.list hq
    exact set_of_listI ns nh pt.isList (ints_of_vals rv) few fin
  · obtain ⟨its, rv, pt, hz⟩ := I.tuple hq
    exact call_set_tupI ns nh (show s.heap.IsTuple p its.toArray from pt) (ints_of_vals rv) few fin
def rLenSet (w : World) : List V → Hp → VK → Prop := fun xs H Q => ∃ (a : Addr) (S : Int → Bool) (n : Nat), xs = [.ref a] ∧ H a = some (SetO w a S n) ∧ Q (.int n) H
theorem call_lenSet : CallR X (.builtin "len") (rLenSet X.w) := by
  intro pins s σ H xs us Q I r h
  obtain ⟨a, S, n, rfl, ha, q⟩ := h
  obtain ⟨u, rfl, rx⟩ := vals1 r
  cases rx
  obtain ⟨o, es, ep, t, ho, hex, hd, g, nd, hm, hb, hf, hn, hr, hl⟩ := setO_get I ha
  have small : (es.size : Int) < 2 ^ 63 := by unfold scanBound at hb; have : (2 : Int) ^ 63 = 9223372036854775808 := by decide
                                              omega
  exact call_len_set ho hex hd hf small ⟨.int n, H, I.tok _, ⟨_, by rw [hn]⟩, q⟩
theorem seqOfI_ok {x d : PyData} {o : List Int → Option PyData} (e : ((seqOf x).bind fun l => (intsOf l).bind o) = some d) {b : Addr} {F H : Hp} {v : V} (k : Same F H) (h : Bw K b F H v x) : ∃ p ns, v = .ref p ∧ (SqL K H p (ns.map V.int) ∨ SqT K H p (ns.map V.int)) ∧ o ns = some d := by
  obtain ⟨l, ns, h1, h2, e⟩ := seqI_ok e
  obtain ⟨p, rfl, h3⟩ := h.seqI k h1 h2
  exact ⟨p, ns, rfl, h3, e⟩
theorem z_lenSet (hc : X.calm = true) (hm : X.mg "len" = none) (hm2 : X.mg "set" = none) (ha : ZB X a f) (hg : Gl X "len" := by rfl) (hg2 : Gl X "set" := by rfl) (hs : starEach [a] X.env = (false, eval a X.env) :: starEach [] X.env := by rfl)
    (hs2 : starEach [.Call (.Name "set" p2) [a] [] pos2] X.env = (false, eval (.Call (.Name "set" p2) [a] [] pos2) X.env) :: starEach [] X.env := by rfl) : ZE X (.Call (.Name "len" p) [.Call (.Name "set" p2) [a] [] pos2] [] pos) (e1 dLenSet f) :=
  (pe_callB call_lenSet hg hm (by decide +kernel) (pa_cons (pe_callTy (call_setI hc) hg2 hm2 (by decide +kernel) (pa_cons ha pa_nil hs) (by decide) (by decide) hs rfl) pa_nil hs2) (by decide) (by decide) hs2 rfl).zimp fun σ H Q ⟨b, F, ρ, B, k, lr, q⟩ => by
  obtain ⟨d, B', e, q⟩ := q.ok
  obtain ⟨x, B1, e1, e⟩ := R.bind_ok e
  obtain ⟨e3, rfl⟩ := oR_ok e
  refine eb_step k lr e1 fun v F1 H1 x1 k1 l1 r1 => ?_
  obtain ⟨p, ns, rfl, h1, e4⟩ := seqOfI_ok e3 k1.same r1
  split at e4 <;> first | (cases e4; done) | skip
  rename_i hl
  cases e4
  refine ⟨p, ns, rfl, h1, hl, fun a na => ⟨a, _, _, rfl, upd_same, ?_⟩⟩
  obtain ⟨x2, k2⟩ := Ext.newO (o := SetO X.w a (fun j => decide (j ∈ ns)) (ddI ns).length) k1 na
  exact q _ F1 _ (x1.trans x2) k2 (.int _)
theorem z_sortSet (hc : X.calm = true) (hm : X.mg "sorted" = none) (hm2 : X.mg "set" = none) (ha : ZB X a f) (hg : Gl X "sorted" := by rfl) (hg2 : Gl X "set" := by rfl) (hs : starEach [a] X.env = (false, eval a X.env) :: starEach [] X.env := by rfl)
    (hs2 : starEach [.Call (.Name "set" p2) [a] [] pos2] X.env = (false, eval (.Call (.Name "set" p2) [a] [] pos2) X.env) :: starEach [] X.env := by rfl) : ZE X (.Call (.Name "sorted" p) [.Call (.Name "set" p2) [a] [] pos2] [] pos) (e1 dSortSet f) :=
  (pe_callB (cr_sortedSet hc) hg hm (by decide +kernel) (pa_cons (pe_callTy (call_setI hc) hg2 hm2 (by decide +kernel) (pa_cons ha pa_nil hs) (by decide) (by decide) hs rfl) pa_nil hs2) (by decide) (by decide) hs2 rfl).zimp fun σ H Q ⟨b, F, ρ, B, k, lr, q⟩ => by
  obtain ⟨d, B', e, q⟩ := q.ok
  obtain ⟨x, B1, e1, e⟩ := R.bind_ok e
  obtain ⟨e3, rfl⟩ := oR_ok e
  refine eb_step k lr e1 fun v F1 H1 x1 k1 l1 r1 => ?_
  obtain ⟨p, ns, rfl, h1, e4⟩ := seqOfI_ok e3 k1.same r1
  split at e4 <;> first | (cases e4; done) | skip
  rename_i hl
  rw [Bool.and_eq_true, decide_eq_true_eq, decide_eq_true_eq] at hl
  cases e4
  refine ⟨p, ns, rfl, h1, hl.1, fun a na => ?_⟩
  obtain ⟨x2, k2⟩ := Ext.newO (o := SetO X.w a (fun j => decide (j ∈ ns)) (ddI ns).length) k1 na
  refine ⟨a, _, _, rfl, upd_same, hl.2, fun ks c asc mem len nc => ?_⟩
  have ep : ks = sortI (ddI ns) := by
    have nd : ks.Nodup := asc.imp fun h => Int.ne_of_lt h
    refine asc_one ((same_len nd (ddI_nodup ns) fun k => ?_).trans (sortI_perm _).symm) (asc.imp fun h => Int.le_of_lt h) (sortI_asc _)
    rw [mem k, ddI_mem, decide_eq_true_eq]
  rw [ep]
  exact newInts k2 (fun u F' H' x3 k3 r3 => q u F' H' ((x1.trans x2).trans x3) k3 r3) nc
end
end Tp

set_option Elab.async false
set_option linter.all false
set_option maxRecDepth 100000
set_option maxHeartbeats 4000000
/-! Snd25: repr(a) != repr(b). -/
namespace Tp
open PySem PySem.Spec L2
mutual
/-- no dict, whole numbers not too large -/
def plainD : PyData → Bool
  | .int i => decide (-1000000000000000000 < i ∧ i < 1000000000000000000)
  | .list xs => plainL xs
  | .tuple xs => plainL xs
  | .dict _ => false
  | _ => true
def plainL : List PyData → Bool
  | [] => true
  | x :: xs => plainD x && plainL xs
end
mutual
/-- its text is no longer than this -/
def costD : PyData → Nat
  | .none => 4
  | .bool _ => 5
  | .int _ => 20
  | .str x => (reprText x).length
  | .list xs => costL xs + 4
  | .tuple xs => costL xs + 4
  | .dict _ => 0
def costL : List PyData → Nat
  | [] => 0
  | x :: xs => costD x + 2 + costL xs
end
mutual
def sameD : PyData → PyData → Bool
  | .none, .none => true
  | .bool a, .bool b => decide (a = b)
  | .int a, .int b => decide (a = b)
  | .str a, .str b => decide (a = b)
  | .list a, .list b => sameL a b
  | .tuple a, .tuple b => sameL a b
  | _, _ => false
def sameL : List PyData → List PyData → Bool
  | [], [] => true
  | x :: xs, y :: ys => sameD x y && sameL xs ys
  | _, _ => false
end
mutual
theorem sameD_eq : ∀ {x y : PyData}, sameD x y = true → x = y
  | .none, y, h => by cases y <;> simp [sameD] at h; rfl
  | .bool a, y, h => by cases y <;> simp [sameD] at h; rw [h]
  | .int a, y, h => by cases y <;> simp [sameD] at h; rw [h]
  | .str a, y, h => by cases y <;> simp [sameD] at h; rw [h]
  | .list a, y, h => by
    cases y <;> simp only [sameD] at h <;> first | (cases h; done) | skip
    rw [sameL_eq h]
  | .tuple a, y, h => by
    cases y <;> simp only [sameD] at h <;> first | (cases h; done) | skip
    rw [sameL_eq h]
  | .dict a, y, h => by cases y <;> simp [sameD] at h
theorem sameL_eq : ∀ {x y : List PyData}, sameL x y = true → x = y
  | [], [], _ => rfl
  | [], _ :: _, h => by simp [sameL] at h
  | _ :: _, [], h => by simp [sameL] at h
  | x :: xs, y :: ys, h => by
    simp only [sameL, Bool.and_eq_true] at h
    rw [sameD_eq h.1, sameL_eq h.2]
end
mutual
theorem sameD_self : ∀ {x : PyData}, plainD x = true → sameD x x = true
  | .none, _ => rfl
  | .bool _, _ => by simp [sameD]
  | .int _, _ => by simp [sameD]
  | .str _, _ => by simp [sameD]
  | .list xs, h => by simp only [sameD]; exact sameL_self (by simpa only [plainD] using h)
  | .tuple xs, h => by simp only [sameD]; exact sameL_self (by simpa only [plainD] using h)
  | .dict _, h => by simp [plainD] at h
theorem sameL_self : ∀ {x : List PyData}, plainL x = true → sameL x x = true
  | [], _ => rfl
  | x :: xs, h => by
    simp only [plainL, Bool.and_eq_true] at h
    simp only [sameL, sameD_self h.1, sameL_self h.2, Bool.and_self]
end
def piledS : List Str → Nat
  | [] => 0
  | t :: ts => t.length + 2 + piledS ts
theorem textFrom_le : ∀ (ts : List Str) (k : Nat) (acc : Str), (textFrom k acc ts).length ≤ acc.length + piledS ts
  | [], k, acc => by show acc.length ≤ acc.length + 0; omega
  | t :: ts, k, acc => by
    refine Nat.le_trans (textFrom_le ts (k + 1) _) ?_
    rw [strLen_append, strLen_append]
    have : (((if k > 0 then ", " else "" : String)) : Str).length ≤ 2 := by split <;> decide
    show _ ≤ acc.length + (t.length + 2 + piledS ts)
    omega
theorem join_le : ∀ ts : List Str, (Str.join ", " ts).length ≤ piledS ts
  | [] => by decide
  | [x] => by show x.length ≤ x.length + 2 + 0; omega
  | x :: y :: r => by
    have ih := join_le (y :: r)
    show (x ++ ", " ++ Str.join ", " (y :: r)).length ≤ x.length + 2 + piledS (y :: r)
    have e2 : ((", " : String) : Str).length = 2 := rfl
    rw [strLen_append, strLen_append, e2]
    omega
mutual
theorem shown_le : ∀ {d : PyData}, plainD d = true → d.shown.length ≤ costD d
  | .none, _ => by decide
  | .bool b, _ => by cases b <;> decide
  | .int i, h => by
    have h' : -1000000000000000000 < i ∧ i < 1000000000000000000 := of_decide_eq_true (by simpa only [plainD] using h)
    have : i.natAbs < 10 ^ 18 := by have : (10 : Nat) ^ 18 = 1000000000000000000 := by decide
                                    omega
    have l := int_text_length_le10 (k := 18) (by decide) this
    show (Str.ofString (toString i)).length ≤ 20
    rw [ofString_length]
    omega
  | .str x, _ => Nat.le_refl _
  | .list xs, h => by
    have ih := shownAll_le (by simpa only [plainD] using h)
    show (listText (PyData.shownAll xs)).length ≤ costL xs + 4
    unfold listText
    rw [strLen_append]
    have := textFrom_le (PyData.shownAll xs) 0 "["
    have e1 : (("[" : String) : Str).length = 1 := rfl
    have e2 : (("]" : String) : Str).length = 1 := rfl
    omega
  | .tuple xs, h => by
    have ih := shownAll_le (by simpa only [plainD] using h)
    show (tupleText (PyData.shownAll xs)).length ≤ costL xs + 4
    unfold tupleText
    rw [strLen_append, strLen_append]
    have := join_le (PyData.shownAll xs)
    have e1 : (("(" : String) : Str).length = 1 := rfl
    have e3 : (((if (PyData.shownAll xs).length == 1 then ",)" else ")" : String)) : Str).length ≤ 2 := by split <;> decide
    omega
  | .dict _, h => by simp [plainD] at h
theorem shownAll_le : ∀ {ds : List PyData}, plainL ds = true → piledS (PyData.shownAll ds) ≤ costL ds
  | [], _ => Nat.le_refl _
  | d :: ds, h => by
    simp only [plainL, Bool.and_eq_true] at h
    have h1 := shown_le h.1
    have h2 := shownAll_le h.2
    show d.shown.length + 2 + piledS (PyData.shownAll ds) ≤ costD d + 2 + costL ds
    omega
end
mutual
theorem plain_show : ∀ {d : PyData}, plainD d = true → d.showable = true ∧ d.hasDict = false
  | .none, _ => ⟨rfl, rfl⟩
  | .bool _, _ => ⟨rfl, rfl⟩
  | .int i, h => by
    have h' : -1000000000000000000 < i ∧ i < 1000000000000000000 := of_decide_eq_true (by simpa only [plainD] using h)
    refine ⟨?_, rfl⟩
    show decide (i.natAbs.log2 < 1920) = true
    refine decide_eq_true ?_
    by_cases h0 : i.natAbs = 0
    · rw [h0]; decide
    · refine Nat.lt_of_lt_of_le ((Nat.log2_lt h0).mpr (show i.natAbs < 2 ^ 60 from ?_)) (by decide)
      have : (2 : Nat) ^ 60 = 1152921504606846976 := by decide
      omega
  | .str _, _ => ⟨rfl, rfl⟩
  | .list xs, h => plain_showL (by simpa only [plainD] using h)
  | .tuple xs, h => plain_showL (by simpa only [plainD] using h)
  | .dict _, h => by simp [plainD] at h
theorem plain_showL : ∀ {ds : List PyData}, plainL ds = true → PyData.showableAll ds = true ∧ PyData.hasDictAll ds = false
  | [], _ => ⟨rfl, rfl⟩
  | d :: ds, h => by
    simp only [plainL, Bool.and_eq_true] at h
    obtain ⟨a, b⟩ := plain_show h.1
    obtain ⟨c, e⟩ := plain_showL h.2
    exact ⟨by simp only [PyData.showableAll, a, c, Bool.and_self], by simp only [PyData.hasDictAll, b, e, Bool.or_self]⟩
end
def isSeqD : PyData → Bool
  | .list _ => true
  | .tuple _ => true
  | _ => false
/-- it can be shown -/
def okShow (d : PyData) : Bool := isSeqD d && plainD d && decide (costD d ≤ 10000000) && decide (d.depth ≤ 60)
/-- repr(a) != repr(b), a and b the same -/
def dReprNe (x y : PyData) : Option PyData := if sameD x y && okShow x then some (.bool false) else none
def rRepr (K : PySem.W.Frag) : List V → Hp → VK → Prop := fun xs H Q => ∃ p d, xs = [.ref p] ∧ Dp K H (.ref p) d ∧ okShow d = true ∧ Q (.str d.shown) H
section
variable {X : Cx} {K : PySem.W.Frag} {e a c : Expr} {f g : EF} {p p2 pos pos2 pos3 : Pos} {kk : Nat}
theorem call_repr (hg : X.A.guards = some []) (hu : X.A.units + 100 < cLine) : CallR X (.builtin "repr") (rRepr X.K) := by
  intro pins s σ H xs us Q I r h
  obtain ⟨p, d, rfl, hd, ok, q⟩ := h
  obtain ⟨u, rfl, rx⟩ := vals1 r
  obtain ⟨as, rd⟩ := Dp.reads I d _ u hd rx
  cases rx
  unfold okShow at ok
  simp only [Bool.and_eq_true, decide_eq_true_eq] at ok
  obtain ⟨⟨⟨_, h2⟩, h3⟩, h4⟩ := ok
  obtain ⟨s1, s2⟩ := plain_show h2
  have hz : d.shown.length ≤ sizeLine := by
    have := shown_le h2
    rw [sizeLine_eq]
    omega
  exact repr_of_reads' rd s1 (fun z => by rw [s2] at z; cases z) hg (by omega) (fun b o e => e) (fun h' u tk k => ⟨.str d.shown, H, I.kept (t' := tk) k, ⟨_, rfl⟩, q⟩) hz
theorem bw_ref {b : Addr} {F H : Hp} {v : V} {x : PyData} (k : Same F H) (h : Bw K b F H v x) (hs : isSeqD x = true) : ∃ p, v = .ref p := by
  cases x <;> first | (cases hs; done) | skip
  · obtain ⟨p, vs, e, _⟩ := h.listH k; exact ⟨p, e⟩
  · obtain ⟨p, vs, e, _⟩ := h.tuple k; exact ⟨p, e⟩
theorem repr_imp {σ : L2.St} {H : Hp} {Q : VK} (h : TEv X.K (e2 dReprNe f g) σ H Q) : tOp rNe (tCB (rRepr X.K) (tCons (TEb X.K f) tNil)) (tCB (rRepr X.K) (tCons (TEb X.K g) tNil)) σ H Q := by
  obtain ⟨b, F, ρ, B, k, lr, q⟩ := h
  obtain ⟨d, B', e, q⟩ := q.ok
  obtain ⟨x, B1, e1, e⟩ := R.bind_ok e
  obtain ⟨y, B2, e2, e⟩ := R.bind_ok e
  obtain ⟨e3, rfl⟩ := oR_ok e
  unfold dReprNe at e3
  split at e3 <;> first | (cases e3; done) | skip
  rename_i hc
  rw [Bool.and_eq_true] at hc
  obtain ⟨hs, ok⟩ := hc
  have exy := sameD_eq hs
  subst exy
  cases e3
  have ok' := ok
  unfold okShow at ok'
  simp only [Bool.and_eq_true, decide_eq_true_eq] at ok'
  have sq := ok'.1.1.1
  have nd := (plain_show ok'.1.1.2).2
  refine eb_step k lr e1 fun v F1 H1 x1 k1 l1 r1 => ?_
  obtain ⟨p1, rfl⟩ := bw_ref k1.same r1 sq
  refine ⟨p1, x, rfl, r1.dp k1.same nd, ok, eb_step k1 l1 e2 fun w F2 H2 x2 k2 l2 r2 => ?_⟩
  obtain ⟨p2, rfl⟩ := bw_ref k2.same r2 sq
  refine ⟨p2, x, rfl, r2.dp k2.same nd, ok, rfl, ?_⟩
  have : (.bl (!decide (V.str x.shown = V.str x.shown)) : V) = .bl false := by simp
  rw [this]
  exact q _ F2 H2 (x1.trans x2) k2 (.bl _)
theorem pe_repr (hgd : X.A.guards = some []) (hu : X.A.units + 100 < cLine) (hm : X.mg "repr" = none) (ha : ZB X a f) (hg : Gl X "repr") (hs : starEach [a] X.env = (false, eval a X.env) :: starEach [] X.env) : PE X (.Call (.Name "repr" p) [a] [] pos) (tCB (rRepr X.K) (tCons (TEb X.K f) tNil)) :=
  pe_callB (call_repr hgd hu) hg hm (by decide +kernel) (pa_cons ha pa_nil hs) (by decide) (by decide) hs rfl
theorem z_reprNe {kg : Nat} (G : Gd X kg) (hm : X.mg "repr" = none) (ha : ZB X a f) (hc : ZB X c g) (hg : Gl X "repr" := by rfl) (hs : starEach [a] X.env = (false, eval a X.env) :: starEach [] X.env := by rfl) (hs2 : starEach [c] X.env = (false, eval c X.env) :: starEach [] X.env := by rfl)
    (hb : behindInMarks .NotEq (.Call (.Name "repr" p2) [c] [] pos2) = false := by rfl) : ZT X (.Compare (.Call (.Name "repr" p) [a] [] pos) [.NotEq] [.Call (.Name "repr" p2) [c] [] pos2] pos3) (e2 dReprNe f g) := by
  have hu : X.A.units + 100 < cLine := by have := G.rm.un; omega
  exact (pt_cmpR op_ne (pe_repr G.gs hu hm ha hg hs) (pe_repr G.gs hu hm hc hg hs2) hb).zimp fun _ _ _ q => repr_imp (t_of q)
end
end Tp

set_option Elab.async false
set_option linter.all false
set_option maxRecDepth 100000
set_option maxHeartbeats 4000000
/-! Snd26: whole numbers read by hand; the law's own defs. -/
namespace Tp
open PySem PySem.Spec L2
/-- the expression gives the number i and changes nothing -/
def IsI (t : TE) (σ : L2.St) (H : Hp) (i : Int) : Prop := ∀ Q : VK, Q (.int i) H → t σ H Q
section
variable {σ : L2.St} {H : Hp} {a b : TE} {i j : Int} {k : Nat}
theorem isI_c : IsI (tC (.int i)) σ H i := fun Q q => q
theorem isI_v (h : σ[k]? = some (some (.int i))) : IsI (tVar k) σ H i := fun Q q => ⟨_, h, q⟩
theorem isI_add (ha : IsI a σ H i) (hb : IsI b σ H j) : IsI (tOp (rI0 fun i j => .int (i + j)) a b) σ H (i + j) := fun Q q => ha _ (hb _ ⟨_, _, rfl, rfl, q⟩)
theorem isI_mul (ha : IsI a σ H i) (hb : IsI b σ H j) (c : CMul i j) : IsI (tOp (rI CMul fun i j => .int (i * j)) a b) σ H (i * j) := fun Q q => ha _ (hb _ ⟨_, _, rfl, rfl, c, q⟩)
theorem isI_mod (ha : IsI a σ H i) (hb : IsI b σ H j) (c : 0 < j) : IsI (tOp (rI (fun _ j => 0 < j) fun i j => .int (i % j)) a b) σ H (i % j) := fun Q q => ha _ (hb _ ⟨_, _, rfl, rfl, c, q⟩)
theorem isI_pow (ha : IsI a σ H i) (hb : IsI b σ H j) (c : CPow i j) : IsI (tOp (rI CPow fun i j => .int (i ^ j.toNat)) a b) σ H (i ^ j.toNat) := fun Q q => ha _ (hb _ ⟨_, _, rfl, rfl, c, q⟩)
def rInt1 : List V → Hp → VK → Prop := fun xs H Q => (∃ i, xs = [.int i] ∧ Q (.int i) H) ∨ ∃ k, xs = [.bl k] ∧ Q (.int (if k then 1 else 0)) H
theorem isI_int (ha : IsI a σ H i) : IsI (tCB rInt1 (tCons a tNil)) σ H i := fun Q q => ha _ (.inl ⟨_, rfl, q⟩)
end
section
variable {X : Cx} {a : Expr} {t : TE} {p pos : Pos}
theorem pe_toInt (hm : X.mg "int" = none) (ha : PE X a t) (hg : Gl X "int" := by rfl) (hs : starEach [a] X.env = (false, eval a X.env) :: starEach [] X.env := by rfl) : PE X (.Call (.Name "int" p) [a] [] pos) (tCB rInt1 (tCons t tNil)) :=
  pe_callTy call_int1 hg hm (by decide +kernel) (pa_cons ha pa_nil hs) (by decide) (by decide) hs rfl
end
/-- what the maker of the bag promises -/
def spBag (K : PySem.W.Frag) : Sp := fun vs H Q _ => ∃ (a : Addr) (ns : List Int) (lap : Int), vs = [.ref a, .int lap] ∧ SqL K H a (ns.map V.int) ∧ 0 ≤ lap ∧ lap ≤ 100 ∧ ∀ H' p B, (∀ c o, H c = some o → H' c = some o) → H p = none → H' p = some (.lst (bagL B)) → Q (.ref p) H'
/-- what the law promises -/
def spLaw (K : PySem.W.Frag) : Sp := fun vs H Q _ => ∃ (a : Addr) (ns : List Int), vs = [.ref a] ∧ SqL K H a (ns.map V.int) ∧ ns.length ≤ 63 ∧ ∀ H', Q (.bl true) H'
theorem cut_int {ns : List Int} {lo hi : Option Int} {x : V} (h : x ∈ cutV (ns.map V.int) lo hi) : ∃ k, x = .int k := by
  unfold cutV at h
  obtain ⟨k, _, e⟩ := List.mem_map.mp (List.mem_of_mem_drop (List.mem_of_mem_take h))
  exact ⟨k, e.symm⟩
theorem sq_keep {K : PySem.W.Frag} {H H' : Hp} {a : Addr} {xs : List V} (h : SqL K H a xs) (k : ∀ c o, H c = some o → H' c = some o) : SqL K H' a xs := by
  rcases h with h | h
  · rcases h with h | ⟨o, h⟩
    · exact .inl (.inl (k _ _ h))
    · exact .inl (.inr ⟨o, k _ _ h⟩)
  · exact .inr h
/-- the test tells k and changes nothing -/
def IsT (t : TT) (σ : L2.St) (H : Hp) (k : Bool) : Prop := ∀ Q : Bool → Hp → Prop, Q k H → t σ H Q
section
variable {σ : L2.St} {H : Hp} {a b : TE} {t u : TT} {i j : Int} {k l : Nat} {c d : Bool} {K : PySem.W.Frag}
theorem isT_lt (ha : IsI a σ H i) (hb : IsI b σ H j) : IsT (fun σ H Q => tOp (rI0 fun i j => .bl (decide (i < j))) a b σ H fun x H' => ∃ k, x = .bl k ∧ Q k H') σ H (decide (i < j)) := fun Q q => ha _ (hb _ ⟨_, _, rfl, rfl, _, rfl, q⟩)
theorem isT_ge (ha : IsI a σ H i) (hb : IsI b σ H j) : IsT (fun σ H Q => tOp (rI0 fun i j => .bl (decide (j ≤ i))) a b σ H fun x H' => ∃ k, x = .bl k ∧ Q k H') σ H (decide (j ≤ i)) := fun Q q => ha _ (hb _ ⟨_, _, rfl, rfl, _, rfl, q⟩)
theorem isT_or (h1 : IsT t σ H c) (h2 : IsT u σ H d) : IsT (tOr t u) σ H (c || d) := fun Q q => h1 _ (by
  cases c with
  | true => exact iteT q
  | false => exact iteF (h2 _ q))
theorem isI_if (h : IsT t σ H c) (h1 : c = true → ∃ i, IsI a σ H i) (h2 : ∃ i, IsI b σ H i) : ∃ i, IsI (tIf t a b) σ H i := by
  cases c with
  | true =>
    obtain ⟨i, hi⟩ := h1 rfl
    exact ⟨i, fun Q q => h _ (iteT (hi Q q))⟩
  | false =>
    obtain ⟨i, hi⟩ := h2
    exact ⟨i, fun Q q => h _ (iteF (hi Q q))⟩
theorem isI_len {p : Addr} {xs : List V} (h : σ[k]? = some (some (.ref p))) (hS : SqL K H p xs) : IsI (tCB (fun xs H Q => ∃ p ys, xs = [.ref p] ∧ (SqL K H p ys ∨ SqT K H p ys) ∧ Q (.int ys.length) H) (tCons (tVar k) tNil)) σ H xs.length := fun Q q => ⟨_, h, p, xs, rfl, .inl hS, q⟩
theorem at_int {ns : List Int} (h0 : 0 ≤ i) (h : i < (ns.map V.int).length) : ∃ n, L2.atI (ns.map V.int) i = some (.int n) := by
  rw [List.length_map] at h
  have hi : i.toNat < ns.length := by omega
  refine ⟨ns[i.toNat], ?_⟩
  unfold L2.atI L2.ixN
  rw [if_pos h0, if_pos (by rw [List.length_map]; exact h), Option.bind_some, List.getElem?_map, List.getElem?_eq_getElem hi]
  rfl
theorem isI_ix {p : Addr} {xs : List V} {n : Int} (h : σ[k]? = some (some (.ref p))) (hl : σ[l]? = some (some (.int i))) (hS : SqL K H p xs) (e : L2.atI xs i = some (.int n)) : IsI (tOp (rIx K) (tVar k) (tVar l)) σ H n := fun Q q => ⟨_, h, _, hl, .inl ⟨p, xs, i, .int n, rfl, rfl, hS, e, q⟩⟩
theorem isI_abs (ha : IsI a σ H i) : IsI (tCB (fun xs H Q => ∃ i, xs = [.int i] ∧ Q (.int (if i < 0 then -i else i)) H) (tCons a tNil)) σ H (if i < 0 then -i else i) := fun Q q => ha _ ⟨_, rfl, q⟩
end
section
variable {σ : L2.St} {H : Hp} {a b : TE} {i j : Int}
theorem isI_max (ha : IsI a σ H i) (hb : IsI b σ H j) : IsI (tCB (fun xs H Q => ∃ i j, xs = [.int i, .int j] ∧ Q (.int (if j > i then j else i)) H) (tCons a (tCons b tNil))) σ H (if j > i then j else i) := fun Q q => ha _ (hb _ ⟨_, _, rfl, q⟩)
theorem isI_min (ha : IsI a σ H i) (hb : IsI b σ H j) : IsI (tCB (fun xs H Q => ∃ i j, xs = [.int i, .int j] ∧ Q (.int (if j < i then j else i)) H) (tCons a (tCons b tNil))) σ H (if j < i then j else i) := fun Q q => ha _ (hb _ ⟨_, _, rfl, q⟩)
end
/-- all([right(bag) for turn in range(n)]) -/
theorem compF_true {f : PyData → Bag → R (List PyData)} (h : ∀ x B, ∃ B', f x B = .ok [.bool true] B') : ∀ (xs : List PyData) (B : Bag), ∃ B', compF f xs B = .ok (xs.map fun _ => PyData.bool true) B'
  | [], B => ⟨B, rfl⟩
  | x :: xs, B => by
    obtain ⟨B1, e1⟩ := h x B
    obtain ⟨B2, e2⟩ := compF_true h xs B1
    refine ⟨B2, ?_⟩
    show (f x B).bind _ = _
    rw [e1]
    show (compF f xs B1).bind _ = _
    rw [e2]
    rfl
theorem bls_true : ∀ xs : List PyData, blsOf (xs.map fun _ => PyData.bool true) = some (xs.map fun _ => true)
  | [] => rfl
  | x :: xs => by simp [blsOf, bls_true xs]
theorem all_true {α : Type} : ∀ xs : List α, (xs.map fun _ => true).all id = true
  | [] => rfl
  | x :: xs => by simp
/-- the law's rounds all tell True -/
theorem rounds_true {sem : FSem} (h : ∀ B, ∃ B', sem [] B = .ok (.bool true) B') (n : Int) (hn : smallI n = true) (B : Bag) :
    ∃ B', Tp.e1 dAll (eComp [3] (.one 3) (iRng1 (eC (.int n))) (eC (.bool true)) (eCallB 2 sem lNil)) [.no, .no, .bg, .no] B = .ok (.bool true) B' := by
  obtain ⟨B', e⟩ := compF_true (f := turn1 [3] (.one 3) (eC (.bool true)) (eCallB 2 sem lNil) [.no, .no, .bg, .no]) (fun x B => by
    obtain ⟨B', e⟩ := h B
    refine ⟨B', ?_⟩
    show ((eCallB 2 sem lNil [.no, .no, .bg, .fz x] B).bind fun d B => R.ok [d] B) = _
    show ((sem [] B).bind fun d B => R.ok [d] B) = _
    rw [e]
    rfl) (rngI 0 n) B
  refine ⟨B', ?_⟩
  have e2 : eComp [3] (.one 3) (iRng1 (eC (.int n))) (eC (.bool true)) (eCallB 2 sem lNil) [.no, .no, .bg, .no] B = .ok (.list ((rngI 0 n).map fun _ => PyData.bool true)) B' := by
    show ((iRng1 (eC (.int n)) [.no, .no, .bg, .no] B).bind _) = _
    have : iRng1 (eC (.int n)) [.no, .no, .bg, .no] B = .ok (rngI 0 n) B := by
      show (if smallI n then R.ok (rngI 0 n) B else .bad) = _
      rw [hn]; rfl
    rw [this]
    show (compF _ (rngI 0 n) B).bind _ = _
    rw [e]
    rfl
  show (R.bind _ _) = _
  rw [e2]
  show oR ((blsOf _).map fun bs => PyData.bool (bs.all id)) B' = _
  rw [bls_true]
  show R.ok (PyData.bool (((rngI 0 n).map fun _ => true).all id)) B' = _
  rw [all_true]
/-- the reading of such a test, where the bag stands in slot 2 -/
theorem rounds_read {K : PySem.W.Frag} {f : EF} {H : Hp} {p : Addr} {B B' : Bag} {x0 x1 x3 : Option V} {Q : Bool → Hp → Prop} (hp : H p = some (.lst (bagL B))) (e : f [.no, .no, .bg, .no] B = .ok (.bool true) B') (q : ∀ H', (∀ a o, a ≠ p → H a = some o → H' a = some o) → Q true H') :
    TTv K f [x0, x1, some (.ref p), x3] H Q := by
  refine ⟨p, fun _ => none, [.no, .no, .bg, .no], B, ⟨fun _ _ h => (nomatch h), rfl, hp⟩, ⟨rfl, fun i s h => ?_, fun i j s t p hij h1 h2 o1 o2 => ?_⟩, ?_⟩
  · match i, h with
    | 0, h => cases h; trivial
    | 1, h => cases h; trivial
    | 2, h => cases h; rfl
    | 3, h => cases h; trivial
    | n + 4, h => simp at h
  · have gen : ∀ (i : Nat) (s : Slot), ([Slot.no, .no, .bg, .no] : Env)[i]? = some s → s.own = false := fun i s h => by
      match i, h with
      | 0, h => cases h; rfl
      | 1, h => cases h; rfl
      | 2, h => cases h; rfl
      | 3, h => cases h; rfl
      | n + 4, h => simp at h
    rw [gen i s h1] at o1
    cases o1
  · rw [e]
    exact fun F' H' x k => q H' x.hp
theorem seq_rng {ta : TE} {g : TG} {tb t : TS} {D : Ends} {σ : L2.St} {H : Hp} {m : Int} (hm : IsI ta σ H m) (h0 : 0 ≤ m) (h1 : m ≤ 100) (q : tSeq (tFor (fun _ H R => R (Itr 0 m.toNat) H) g tb) t D σ H) : tSeq (tFor (L2.iRng1 (tCons ta tNil)) g tb) t D σ H := by
  unfold tSeq tFor at q ⊢
  exact hm _ ⟨m, rfl, by omega, by omega, q⟩
end Tp

set_option Elab.async false
set_option linter.all false
set_option maxRecDepth 100000
set_option maxHeartbeats 4000000
/-! Snd27: a law's end, for defs that are asked for where no repr is running. -/
namespace Tp
open PySem PySem.Spec PyProof.Rows L2
section
variable {P : Program} {w : World} {K : PySem.W.Frag} {mg mb : Str → Option Value} {k : Nat} {fa sc : Addr} {fd : FuncData} {z : Shared} {us : List Value} {ks : List Int}
/-- from an abstract heap in which the script alone may stand -/
theorem top_core {H : Hp} (hO : Only H) (hS : SqL K H sc (ks.map V.int)) (ok : HOk P w H z.heap) (one : ∀ b, H b ≠ none → b = sc) (out : H sc ≠ none → K.lookup sc = none) (KX : K.In z.heap) (gl : z.heap.Ns mainGlobals mg) (bt : z.heap.Ns builtinsNs mb) (bb : ∀ x : Str, x ≠ "__name__" → mb x = bootBuiltins x)
    (lim0 : z.heap.NoLimit) (ng : z.gens = #[]) (at0 : z.heap.get? sc = some { cls := .type "list", data := .seq us.toArray }) (few : ks.length ≤ 63) (hr : Room k callerA)
    (F : ∀ base : Heap, K.In base → base.Ns mainGlobals mg → FnG P w K mg base k fa fd [Str.ofString "script"] (spLaw K)) (bind : ∀ (s : Shared) (u : Value), BindsTo s fd ⟨[u], []⟩ [(Str.ofString "script", u)]) :
    codeAny (model P w) callerA (.call (.ref fa) ⟨[.ref sc], []⟩) (fun r s' => r = .ok (.ret (.bool true)) ∧ OldK z.heap s'.heap ∧ s'.os = z.os ∧ AllBare s'.gens) z := by
  have keep : ∀ {b : Addr} {o : Obj}, z.heap.get? b = some o → H b = none → (hidT z.heap H).get? b = some o := hidT_get
  have free : ∀ {b : Addr} {o : Obj}, z.heap.get? b = some o → (∀ xs n, o.data ≠ .seq xs n) → H b = none := fun {b o} e d => by
    cases q : H b with
    | none => rfl
    | some u =>
      have eb := one b (by rw [q]; exact Option.some_ne_none _)
      rw [eb, at0] at e
      cases e
      exact absurd rfl (d _ _)
  have nsk : ∀ {b : Addr} {m : Str → Option Value}, z.heap.Ns b m → (hidT z.heap H).Ns b m := fun ⟨o, es, ep, e, d, r⟩ => ⟨o, es, ep, keep e (free e fun xs n q => by rw [d] at q; cases q), d, r⟩
  have kin : K.In (hidT z.heap H) := fun b o e => keep (KX b o e) (by
    cases q : H b with
    | none => rfl
    | some u =>
      have eb := one b (by rw [q]; exact Option.some_ne_none _)
      rw [eb, out (by rw [← eb, q]; exact Option.some_ne_none _)] at e
      cases e)
  have md : Mod K mg (hidT z.heap H) := ⟨kin, nsk gl, ⟨mb, nsk bt, bb⟩, let ⟨mc, h1, h2⟩ := lim0; ⟨mc, nsk h1, h2⟩⟩
  have e0 : Env0 P w K mg (hidT z.heap H) callerA [] z H := ⟨rfl, md, fun b o e => of_hidT e, Nat.le_of_eq (hidT_size _ _), trivial, fun b hb => (nomatch (show b ∈ ([] : List Addr) from hb)), ok, .of_eq ng⟩
  have run := (F _ kin (nsk gl)).run callerA [] z H ⟨[.ref sc], []⟩ [.ref sc] [.ref sc] (fun v _ => v = .bl true) (fun _ _ _ => False) rfl hr e0 (bind z (.ref sc)) (.cons rfl .nil) ⟨sc, ks, rfl, hS, few, fun _ => rfl⟩
  refine codeAny_mono run fun r s' h => ?_
  cases r with
  | error e => exact False.elim h
  | ok fl =>
    cases fl <;> first | exact False.elim h | skip
    obtain ⟨v, H', os, bare, un, ok', r', q⟩ := h
    have q : v = .bl true := q
    subst q
    cases (show _ = Value.bool true from r')
    refine ⟨rfl, OldK.of_keep fun b o e => ?_, os, bare⟩
    cases q : H b with
    | none => exact un.keep b o e q (fun m => nomatch (show b ∈ ([] : List Addr) from m)) (fun m => nomatch m)
    | some u =>
      rcases hO b with n | ⟨ob, xs, n⟩
      · rw [q] at n; cases n
      · obtain ⟨e1, _⟩ := ok b _ n
        obtain ⟨e2, _⟩ := ok' b _ (un.frzs b ob _ n)
        rw [e] at e1
        cases e1
        exact e2
theorem top_call (KX : K.In z.heap) (gl : z.heap.Ns mainGlobals mg) (bt : z.heap.Ns builtinsNs mb) (bb : ∀ x : Str, x ≠ "__name__" → mb x = bootBuiltins x) (lim0 : z.heap.NoLimit) (ng : z.gens = #[])
    (at0 : z.heap.get? sc = some { cls := .type "list", data := .seq us.toArray }) (hi : PyProof.Rows.IntsAre us ks) (few : ks.length ≤ 63) (hr : Room k callerA)
    (F : ∀ base : Heap, K.In base → base.Ns mainGlobals mg → FnG P w K mg base k fa fd [Str.ofString "script"] (spLaw K)) (bind : ∀ (s : Shared) (u : Value), BindsTo s fd ⟨[u], []⟩ [(Str.ofString "script", u)]) :
    codeAny (model P w) callerA (.call (.ref fa) ⟨[.ref sc], []⟩) (fun r s' => r = .ok (.ret (.bool true)) ∧ OldK z.heap s'.heap ∧ s'.os = z.os ∧ AllBare s'.gens) z := by
  have rv := vals_ints hi
  have small : ks.length ≤ sizeLine := small_n (by omega)
  have szu : us.length = ks.length := by have := rv.length; simpa using this.symm
  cases hk : K.lookup sc with
  | some o =>
    have e := KX sc o hk
    rw [at0] at e
    cases e
    exact top_core (H := fun _ => none) (fun _ => .inl rfl) (.inr ⟨_, us.toArray, _, hk, rfl, rfl, rfl, by rw [List.size_toArray, szu]; exact small, by simpa using rv⟩) (fun b u q => (nomatch q)) (fun b q => absurd rfl q) (fun q => absurd rfl q) KX gl bt bb lim0 ng at0 few hr F bind
  | none =>
    have at1 : upd (fun _ => none) sc (.frz { cls := .type "list", data := .seq us.toArray } (.lst (ks.map V.int))) sc = some (.frz { cls := .type "list", data := .seq us.toArray } (.lst (ks.map V.int))) := upd_same
    have off : ∀ b, b ≠ sc → upd (fun _ => none) sc (.frz { cls := .type "list", data := .seq us.toArray } (.lst (ks.map V.int))) b = none := fun b h => upd_ne h
    refine top_core (H := upd (fun _ => none) sc (.frz { cls := .type "list", data := .seq us.toArray } (.lst (ks.map V.int)))) (fun b => ?_) (.inl (.inr ⟨_, at1⟩)) (fun b u q => ?_) (fun b q => ?_) (fun _ => hk) KX gl bt bb lim0 ng at0 few hr F bind
    · by_cases hb : b = sc
      · subst hb; exact .inr ⟨_, _, at1⟩
      · exact .inl (off b hb)
    · by_cases hb : b = sc
      · subst hb
        rw [at1] at q
        cases q
        exact ⟨at0, by rw [List.length_map]; exact small, us, _, rv, at0⟩
      · rw [off b hb] at q
        cases q
    · by_cases hb : b = sc
      · exact hb
      · exact absurd (off b hb) q
end
/-! ### the hook: facts by names, and names of the library's own -/
def exB (ex : List (Str × Value)) (K : PySem.W.Frag) : Bool := ex.all fun q => He.eqO (PySem.W.nsIn K mainGlobals q.1) (some (some q.2))
abbrev AlX : Type := Bool × He.AlD
def obsX (n : Nat) (ex : List (Str × Value)) (fa : List He.Fa) (fn : List He.DefD) (g : Addr → Option Obj) : AlX := (exB ex (He.frG g (He.asD g n)), He.obsD fa fn (He.frG g (He.asD g n)))
def hookX (n : Nat) (ex : List (Str × Value)) (fa : List He.Fa) (fn : List He.DefD) : PySem.W.Hook where
  α := AlX
  obs := fun s => obsX n ex fa fn s.heap.get?
  val := fun _ => (true, He.valD fn)
  says := fun _ h => ∃ K : PySem.W.Frag, K.In h ∧ exB ex K = true ∧ He.SaysD fa fn K
  of := fun _ _ e => ⟨_, He.frG_in, congrArg Prod.fst e, congrArg Prod.snd e⟩
  keeps := fun _ _ _ ⟨K, hK, e, c⟩ k => ⟨K, PySem.W.Frag.In.keeps hK k, e, c⟩
theorem obsX_eq {n : Nat} {ex : List (Str × Value)} {fa : List He.Fa} {fn : List He.DefD} {g : Addr → Option Obj} {s : Shared} (h : ∀ a, g a = s.heap.get? a) : obsX n ex fa fn g = (hookX n ex fa fn).obs s := by
  have e : g = s.heap.get? := funext h
  rw [e]
  rfl
theorem exB_at {ex : List (Str × Value)} {K : PySem.W.Frag} {h : Heap} {mg : Str → Option Value} (e : exB ex K = true) (X : K.In h) (N : h.Ns mainGlobals mg) (i : Nat) {x : Str} {v : Value} (hi : ex[i]? = some (x, v) := by rfl) : mg x = some v :=
  PySem.W.mg_of X N (He.eqO_ok (List.all_eq_true.mp e _ (List.mem_of_getElem? hi)))
end Tp

set_option Elab.async false
set_option linter.all false
set_option maxRecDepth 100000
set_option maxHeartbeats 4000000
namespace Tp
open PySem PySem.Spec L2
def top (i : Nat) : Stmt := PySem.Challenge.pw_turnproducts_k60_whole_sights.main.body.getD i (.Pass ⟨0, 0, 0, 0⟩)
def dd (i : Nat) (x : Str) : He.DefD := ⟨(x, none), x, x, defArgs (top i), defBody (top i), defScope (top i), [], []⟩
def fn0 : List He.DefD := [dd 7 "is_whole", dd 8 "is_between", dd 9 "is_tuple_of", dd 13 "is_seats", dd 14 "check_seats", dd 15 "is_seat", dd 16 "check_seat", dd 17 "is_kind", dd 18 "ring_at", dd 19 "rings_by", dd 20 "kind_by", dd 21 "turns_by", dd 27 "does_fit", dd 28 "fitting_by", dd 29 "word_by", dd 30 "best_look_by", dd 31 "is_sight", dd 32 "is_told_kind", dd 33 "check_seen", dd 34 "count_fitting", dd 35 "word", dd 36 "best_look", dd 38 "_law_bag", dd 39 "_law_take", dd 40 "_law_turns", dd 41 "_law_rings", dd 42 "_law_kind", dd 43 "_law_drawn", dd 44 "_law_other", dd 45 "_law_sight", dd 46 "_law_fits", dd 47 "_law_best_look", dd 48 "_law_right", dd 49 "law"]
def fa0 : List He.Fa := [.glo "is_whole", .glo "is_between", .glo "is_tuple_of", .glo "is_seats", .glo "check_seats", .glo "is_seat", .glo "check_seat", .glo "is_kind", .glo "ring_at", .glo "rings_by", .glo "kind_by", .glo "turns_by", .glo "does_fit", .glo "fitting_by", .glo "word_by", .glo "best_look_by", .glo "is_sight", .glo "is_told_kind", .glo "check_seen", .glo "count_fitting", .glo "word", .glo "best_look", .glo "_law_bag", .glo "_law_take", .glo "_law_turns", .glo "_law_rings", .glo "_law_kind", .glo "_law_drawn", .glo "_law_other", .glo "_law_sight", .glo "_law_fits", .glo "_law_best_look", .glo "_law_right", .glo "law", .free "ValueError", .free "abs", .free "all", .free "any", .free "bool", .free "divmod", .free "enumerate", .free "int", .free "isinstance", .free "len", .free "list", .free "max", .free "min", .free "range", .free "repr", .free "set", .free "sorted", .free "sum", .free "tuple", .free "zip", .int "FEWEST_SEATS" 2, .int "MOST_SEATS" 5, .str "SURELY" "surely", .str "MAYBE" "maybe", .str "NEVER" "never", .str "NONE" "none"]
structure Cx0 (K : PySem.W.Frag) (mg : Str → Option Value) : Prop extends Ctx fa0 fn0 K mg where
  gi_perm : mg "permutations" = some (.type "itertools.permutations")
def sem_is_whole : FSem := fn false 1 1 (sRet (eAnd (e1 (dIsi .int) (eVar 0)) (eNot (e1 (dIsi .bool) (eVar 0)))))
theorem nd_is_whole : ([Str.ofString "value"] : List Str).Nodup := by decide +kernel
theorem ok_is_whole {P : Program} {w : World} {K : PySem.W.Frag} {mg : Str → Option Value} {base : Heap} (C : Cx0 K mg) : FxE P w K mg base (Str.ofString "is_whole") 1 false 1 [Str.ofString "value"] sem_is_whole := by
  obtain ⟨fd, D⟩ := C.df 0
  exact z_def (N := [Str.ofString "value"]) (k := 0) D (fsc_by (by decide +kernel)) (C.gd 0) (fun _ _ _ _ _ _ us h => match us, h with | [a0], _ => rfl) rfl rfl fun cdv A outer s0 H E G =>
     z_s1 (z_ret (z_and (z_isi .int (by decide +kernel) (C.gf 41) (C.gf 42) (PE.tb (z_var))) (z_one (z_not (z_isi .bool (by decide +kernel) (C.gf 38) (C.gf 42) (PE.tb (z_var)))))))
def sem_is_between : FSem := fn false 3 3 (sRet (eAnd (eCall sem_is_whole (lCons (eVar 0) (lNil))) (eChn dLe dLe (eVar 1) (eVar 0) (eVar 2))))
theorem nd_is_between : ([Str.ofString "value", Str.ofString "least", Str.ofString "most"] : List Str).Nodup := by decide +kernel
theorem ok_is_between {P : Program} {w : World} {K : PySem.W.Frag} {mg : Str → Option Value} {base : Heap} (C : Cx0 K mg) : FxE P w K mg base (Str.ofString "is_between") 2 false 3 [Str.ofString "value", Str.ofString "least", Str.ofString "most"] sem_is_between := by
  obtain ⟨fd, D⟩ := C.df 1
  exact z_def (N := [Str.ofString "value", Str.ofString "least", Str.ofString "most"]) (k := 1) D (fsc_by (by decide +kernel)) (C.gd 1) (fun _ _ _ _ _ _ us h => match us, h with | [a0, a1, a2], _ => rfl) rfl rfl fun cdv A outer s0 H E G =>
     z_s1 (z_ret (z_and (z_call G (ok_is_whole C) (z_cons (z_var) (z_nil))) (z_one (z_chn op_le ad_le op_le ad_le (PE.tb (z_var)) (PE.tb (z_var)) (PE.tb (z_var))))))
def sem_is_tuple_of : FSem := fn false 2 2 (sRet (eAnd (e1 (dIsi .tup) (eVar 0)) (e2 dEq (e1 dLen (eVar 0)) (eVar 1))))
theorem nd_is_tuple_of : ([Str.ofString "value", Str.ofString "many"] : List Str).Nodup := by decide +kernel
theorem ok_is_tuple_of {P : Program} {w : World} {K : PySem.W.Frag} {mg : Str → Option Value} {base : Heap} (C : Cx0 K mg) : FxE P w K mg base (Str.ofString "is_tuple_of") 1 false 2 [Str.ofString "value", Str.ofString "many"] sem_is_tuple_of := by
  obtain ⟨fd, D⟩ := C.df 2
  exact z_def (N := [Str.ofString "value", Str.ofString "many"]) (k := 0) D (fsc_by (by decide +kernel)) (C.gd 2) (fun _ _ _ _ _ _ us h => match us, h with | [a0, a1], _ => rfl) rfl rfl fun cdv A outer s0 H E G =>
     z_s1 (z_ret (z_and (z_isi .tup (by decide +kernel) (C.gf 52) (C.gf 42) (PE.tb (z_var))) (z_one (z_cmp (op_eqA G.u) ad_eq (PE.tb (z_b1 call_len_seq ad_len (by decide +kernel) (C.gf 43) (PE.tb (z_var)))) (PE.tb (z_var)) rfl))))
def sem_is_seats : FSem := fn false 1 1 (sRet (eCall sem_is_between (lCons (eVar 0) (lCons (eC (.int 2)) (lCons (eC (.int 5)) (lNil))))))
theorem nd_is_seats : ([Str.ofString "value"] : List Str).Nodup := by decide +kernel
theorem ok_is_seats {P : Program} {w : World} {K : PySem.W.Frag} {mg : Str → Option Value} {base : Heap} (C : Cx0 K mg) : FxE P w K mg base (Str.ofString "is_seats") 3 false 1 [Str.ofString "value"] sem_is_seats := by
  obtain ⟨fd, D⟩ := C.df 3
  exact z_def (N := [Str.ofString "value"]) (k := 2) D (fsc_by (by decide +kernel)) (C.gd 3) (fun _ _ _ _ _ _ us h => match us, h with | [a0], _ => rfl) rfl rfl fun cdv A outer s0 H E G =>
     z_s1 (z_ret (z_call G (ok_is_between C) (z_cons (z_var) (z_cons (z_gi (C.gi 54)) (z_cons (z_gi (C.gi 55)) (z_nil))))))
def sem_check_seats : FSem := fn false 1 1 (sIf (eNot (eCall sem_is_seats (lCons (eVar 0) (lNil)))) (sFail) (sNil))
theorem nd_check_seats : ([Str.ofString "seats"] : List Str).Nodup := by decide +kernel
theorem ok_check_seats {P : Program} {w : World} {K : PySem.W.Frag} {mg : Str → Option Value} {base : Heap} (C : Cx0 K mg) : FxE P w K mg base (Str.ofString "check_seats") 4 false 1 [Str.ofString "seats"] sem_check_seats := by
  obtain ⟨fd, D⟩ := C.df 4
  exact z_def (N := [Str.ofString "seats"]) (k := 3) D (fsc_by (by decide +kernel)) (C.gd 4) (fun _ _ _ _ _ _ us h => match us, h with | [a0], _ => rfl) rfl rfl fun cdv A outer s0 H E G =>
     z_s1 (z_ifs (z_tnot (z_val (z_call G (ok_is_seats C) (z_cons (z_var) (z_nil))))) (z_s1 (z_never)) (z_sn))
def sem_is_seat : FSem := fn false 2 2 (sRet (eCall sem_is_between (lCons (eVar 1) (lCons (eC (.int 0)) (lCons (e2 dSub (eVar 0) (eC (.int 1))) (lNil))))))
theorem nd_is_seat : ([Str.ofString "seats", Str.ofString "value"] : List Str).Nodup := by decide +kernel
theorem ok_is_seat {P : Program} {w : World} {K : PySem.W.Frag} {mg : Str → Option Value} {base : Heap} (C : Cx0 K mg) : FxE P w K mg base (Str.ofString "is_seat") 3 false 2 [Str.ofString "seats", Str.ofString "value"] sem_is_seat := by
  obtain ⟨fd, D⟩ := C.df 5
  exact z_def (N := [Str.ofString "seats", Str.ofString "value"]) (k := 2) D (fsc_by (by decide +kernel)) (C.gd 5) (fun _ _ _ _ _ _ us h => match us, h with | [a0, a1], _ => rfl) rfl rfl fun cdv A outer s0 H E G =>
     z_s1 (z_ret (z_call G (ok_is_between C) (z_cons (z_var) (z_cons (z_int) (z_cons (z_bin op_sub ad_sub (PE.tb (z_var)) (PE.tb (z_int))) (z_nil))))))
def sem_check_seat : FSem := fn false 2 2 (sIf (eNot (eCall sem_is_seat (lCons (eVar 0) (lCons (eVar 1) (lNil))))) (sFail) (sNil))
theorem nd_check_seat : ([Str.ofString "seats", Str.ofString "value"] : List Str).Nodup := by decide +kernel
theorem ok_check_seat {P : Program} {w : World} {K : PySem.W.Frag} {mg : Str → Option Value} {base : Heap} (C : Cx0 K mg) : FxE P w K mg base (Str.ofString "check_seat") 4 false 2 [Str.ofString "seats", Str.ofString "value"] sem_check_seat := by
  obtain ⟨fd, D⟩ := C.df 6
  exact z_def (N := [Str.ofString "seats", Str.ofString "value"]) (k := 3) D (fsc_by (by decide +kernel)) (C.gd 6) (fun _ _ _ _ _ _ us h => match us, h with | [a0, a1], _ => rfl) rfl rfl fun cdv A outer s0 H E G =>
     z_s1 (z_ifs (z_tnot (z_val (z_call G (ok_is_seat C) (z_cons (z_var) (z_cons (z_var) (z_nil)))))) (z_s1 (z_never)) (z_sn))
def sem_is_kind : FSem := fn false 5 2 (sSeq (sIf (eOr (eNot (e1 (dIsi .tup) (eVar 1))) (eNot (e1 dAll (eComp [2] (.one 2) (iSeq (eVar 1)) (eC (.bool true)) (eCall sem_is_between (lCons (eVar 2) (lCons (eC (.int 1)) (lCons (eVar 0) (lNil))))))))) (sRet (eC (.bool false))) (sNil)) (sRet (eAnd (e2 dEq (e1 dSumT (eVar 1)) (eVar 0)) (e1 dAll (eComp [3, 4] (.many [3, 4]) (iZipS (eVar 1) (eCutL (eVar 1) (eC (.int 1)))) (eC (.bool true)) (e2 dGe (eVar 3) (eVar 4)))))))
theorem nd_is_kind : ([Str.ofString "seats", Str.ofString "value", Str.ofString "own", Str.ofString "one", Str.ofString "other"] : List Str).Nodup := by decide +kernel
theorem ok_is_kind {P : Program} {w : World} {K : PySem.W.Frag} {mg : Str → Option Value} {base : Heap} (C : Cx0 K mg) : FxE P w K mg base (Str.ofString "is_kind") 3 false 2 [Str.ofString "seats", Str.ofString "value"] sem_is_kind := by
  obtain ⟨fd, D⟩ := C.df 7
  exact z_def (N := [Str.ofString "seats", Str.ofString "value", Str.ofString "own", Str.ofString "one", Str.ofString "other"]) (k := 2) D (fsc_by (by decide +kernel)) (C.gd 7) (fun _ _ _ _ _ _ us h => match us, h with | [a0, a1], _ => rfl) rfl rfl fun cdv A outer s0 H E G =>
     z_ss (z_ifs (PW.zt (z_wor (z_tnot (z_val (z_isi .tup (by decide +kernel) (C.gf 52) (C.gf 42) (PE.tb (z_var))))) (z_wor1 (z_tnot (z_val (z_b1 (cr_all G.calm) ad_all (by decide +kernel) (C.gf 36) (PE.tb (z_comp (own := [(Str.ofString "own", 2)]) G.calm nd_is_kind (z_iB (PE.tb (z_var))) (blkOk_by rfl) (fun s H C_ cl fp => z_g1 nd_is_kind) (fun s H C_ cl fp => z_ts0) (fun s H C_ cl fp => z_call G.blk (ok_is_between C) (z_cons (z_var) (z_cons (z_int) (z_cons (z_var) (z_nil))))))))))))) (z_s1 (z_ret (z_bl))) (z_sn))
      (z_s1 (z_ret (z_and (z_cmp (op_eqA G.u) ad_eq (PE.tb (z_b1 (call_sumT G.calm) ad_sumT (by decide +kernel) (C.gf 51) (PE.tb (z_var)))) (PE.tb (z_var)) rfl) (z_one (z_b1 (cr_all G.calm) ad_all (by decide +kernel) (C.gf 36) (PE.tb (z_comp (own := [(Str.ofString "one", 3), (Str.ofString "other", 4)]) G.calm nd_is_kind (PI.ze (z_zip (C.gf 53) (z_var) (z_cutL (PE.tb (z_var)) (PE.tb (z_int))))) (blkOk_by rfl) (fun s H C_ cl fp => z_gt G.blk.calm (z_gs (z_g1 nd_is_kind) (z_gs (z_g1 nd_is_kind) (z_gs0)))) (fun s H C_ cl fp => z_ts0) (fun s H C_ cl fp => z_cmp op_ge ad_ge (PE.tb (z_var)) (PE.tb (z_var)) rfl))))))))
def sem_ring_at : FSem := fn false 3 2 (sSeq (sAsg (.one 2) (eTup (lCons (eVar 1) (lNil)))) (sSeq (sWhl (e2 dNe (e2 dIx (eVar 0) (e2 dIx (eVar 2) (e1 dNeg (eC (.int 1))))) (eVar 1)) (sAsg (.one 2) (eStar (eVar 2) (lCons (e2 dIx (eVar 0) (e2 dIx (eVar 2) (e1 dNeg (eC (.int 1))))) (lNil))))) (sRet (eVar 2))))
theorem nd_ring_at : ([Str.ofString "turn", Str.ofString "seat", Str.ofString "found"] : List Str).Nodup := by decide +kernel
theorem ok_ring_at {P : Program} {w : World} {K : PySem.W.Frag} {mg : Str → Option Value} {base : Heap} (C : Cx0 K mg) : FxE P w K mg base (Str.ofString "ring_at") 1 false 2 [Str.ofString "turn", Str.ofString "seat"] sem_ring_at := by
  obtain ⟨fd, D⟩ := C.df 8
  exact z_def (N := [Str.ofString "turn", Str.ofString "seat", Str.ofString "found"]) (k := 0) D (fsc_by (by decide +kernel)) (C.gd 8) (fun _ _ _ _ _ _ us h => match us, h with | [a0, a1], _ => rfl) rfl rfl fun cdv A outer s0 H E G =>
     z_ss (z_asg (z_tup (z_cons (z_var) (z_nil))) (z_g1 nd_ring_at))
      (z_ss (z_whl PassesOwn.never (z_tcmp (op_neA G.u) ad_ne (PE.tb (z_ix (PE.tb (z_var)) (PE.tb (z_ix (PE.tb (z_var)) (PE.tb (z_neg (PE.tb (z_int)))))))) (PE.tb (z_var)) rfl) (z_s1 (z_asg (z_star (PE.tb (z_var)) (z_cons (z_ix (PE.tb (z_var)) (PE.tb (z_ix (PE.tb (z_var)) (PE.tb (z_neg (PE.tb (z_int))))))) (z_nil))) (z_g1 nd_ring_at))))
      (z_s1 (z_ret (z_var))))
def sem_rings_by : FSem := fn false 4 1 (sSeq (sAsg (.one 1) (eComp [2] (.one 2) (iRng1 (e1 dLen (eVar 0))) (eC (.bool true)) (eCall sem_ring_at (lCons (eVar 0) (lCons (eVar 2) (lNil)))))) (sRet (e1 dTuple (eComp [3] (.one 3) (iSeq (eVar 1)) (e2 dEq (e2 dIx (eVar 3) (eC (.int 0))) (e1 dMin (eVar 3))) (eVar 3)))))
theorem nd_rings_by : ([Str.ofString "turn", Str.ofString "told", Str.ofString "seat", Str.ofString "ring"] : List Str).Nodup := by decide +kernel
theorem ok_rings_by {P : Program} {w : World} {K : PySem.W.Frag} {mg : Str → Option Value} {base : Heap} (C : Cx0 K mg) : FxE P w K mg base (Str.ofString "rings_by") 2 false 1 [Str.ofString "turn"] sem_rings_by := by
  obtain ⟨fd, D⟩ := C.df 9
  exact z_def (N := [Str.ofString "turn", Str.ofString "told", Str.ofString "seat", Str.ofString "ring"]) (k := 1) D (fsc_by (by decide +kernel)) (C.gd 9) (fun _ _ _ _ _ _ us h => match us, h with | [a0], _ => rfl) rfl rfl fun cdv A outer s0 H E G =>
     z_ss (z_asgC (own := [(Str.ofString "seat", 2)]) G.calm nd_rings_by (PI.ze (z_r1 (C.gf 47) (PE.tb (z_b1 call_len_seq ad_len (by decide +kernel) (C.gf 43) (PE.tb (z_var)))))) (blkOk_by rfl) (fun s H C_ cl fp => z_g1 nd_rings_by) (fun s H C_ cl fp => z_ts0) (fun s H C_ cl fp => z_call G.blk (ok_ring_at C) (z_cons (z_var) (z_cons (z_var) (z_nil)))))
      (z_s1 (z_ret (z_t1 call_tupleF ad_tuple (by decide +kernel) (C.gf 52) (PE.tb (z_comp (own := [(Str.ofString "ring", 3)]) G.calm nd_rings_by (z_iB (PE.tb (z_var))) (blkOk_by rfl) (fun s H C_ cl fp => z_g1 nd_rings_by) (fun s H C_ cl fp => z_ts1 (z_tcmp (op_eqA G.blk.u) ad_eq (PE.tb (z_ix (PE.tb (z_var)) (PE.tb (z_int)))) (PE.tb (z_b1 (call_minI G.blk.calm G.blk.u) ad_min (by decide +kernel) (C.gf 46) (PE.tb (z_var)))) rfl)) (fun s H C_ cl fp => z_var))))))
def sem_kind_by : FSem := fn false 2 1 (sRet (e1 dTuple (e1 dSortRev (eComp [1] (.one 1) (iSeq (eCall sem_rings_by (lCons (eVar 0) (lNil)))) (eC (.bool true)) (e1 dLen (eVar 1))))))
theorem nd_kind_by : ([Str.ofString "turn", Str.ofString "ring"] : List Str).Nodup := by decide +kernel
theorem ok_kind_by {P : Program} {w : World} {K : PySem.W.Frag} {mg : Str → Option Value} {base : Heap} (C : Cx0 K mg) : FxE P w K mg base (Str.ofString "kind_by") 3 false 1 [Str.ofString "turn"] sem_kind_by := by
  obtain ⟨fd, D⟩ := C.df 10
  exact z_def (N := [Str.ofString "turn", Str.ofString "ring"]) (k := 2) D (fsc_by (by decide +kernel)) (C.gd 10) (fun _ _ _ _ _ _ us h => match us, h with | [a0], _ => rfl) rfl rfl fun cdv A outer s0 H E G =>
     z_s1 (z_ret (z_t1 call_tupleF ad_tuple (by decide +kernel) (C.gf 52) (PE.tb (z_sortRev (C.gf 50) (PE.tb (z_comp (own := [(Str.ofString "ring", 1)]) G.calm nd_kind_by (z_iB (PE.tb (z_call G (ok_rings_by C) (z_cons (z_var) (z_nil))))) (blkOk_by rfl) (fun s H C_ cl fp => z_g1 nd_kind_by) (fun s H C_ cl fp => z_ts0) (fun s H C_ cl fp => z_b1 call_len_seq ad_len (by decide +kernel) (C.gf 43) (PE.tb (z_var))))) (hk := pk_cons pe_bl pk_nil)))))
def sem_turns_by : FSem := fn false 2 1 (sRet (eComp [1] (.one 1) (iPerm (eRngL (iRng1 (eVar 0)))) (eC (.bool true)) (eVar 1)))
theorem nd_turns_by : ([Str.ofString "seats", Str.ofString "turn"] : List Str).Nodup := by decide +kernel
theorem ok_turns_by {P : Program} {w : World} {K : PySem.W.Frag} {mg : Str → Option Value} {base : Heap} (C : Cx0 K mg) : FxE P w K mg base (Str.ofString "turns_by") 1 false 1 [Str.ofString "seats"] sem_turns_by := by
  obtain ⟨fd, D⟩ := C.df 11
  exact z_def (N := [Str.ofString "seats", Str.ofString "turn"]) (k := 0) D (fsc_by (by decide +kernel)) (C.gd 11) (fun _ _ _ _ _ _ us h => match us, h with | [a0], _ => rfl) rfl rfl fun cdv A outer s0 H E G =>
     z_s1 (z_ret (z_comp (own := [(Str.ofString "turn", 1)]) G.calm nd_turns_by (z_perm (C.gi_perm) (PE.tb (z_listR G.calm (C.gf 44) (z_g1r (C.gf 47) (PE.tb (z_var)))))) (blkOk_by rfl) (fun s H C_ cl fp => z_g1 nd_turns_by) (fun s H C_ cl fp => z_ts0) (fun s H C_ cl fp => z_var)))
def sem_does_fit : FSem := fn false 5 3 (sSeq (sIf (eNot (e1 dAll (eComp [3, 4] (.many [3, 4]) (iZipS (eVar 1) (eVar 0)) (eC (.bool true)) (eOr (e2 dIsN (eVar 3) (eC .none)) (e2 dEq (eVar 3) (eVar 4)))))) (sRet (eC (.bool false))) (sNil)) (sRet (eOr (e2 dIsN (eVar 2) (eC .none)) (e2 dEq (eCall sem_kind_by (lCons (eVar 0) (lNil))) (eVar 2)))))
theorem nd_does_fit : ([Str.ofString "turn", Str.ofString "sight", Str.ofString "told_kind", Str.ofString "own", Str.ofString "seat"] : List Str).Nodup := by decide +kernel
theorem ok_does_fit {P : Program} {w : World} {K : PySem.W.Frag} {mg : Str → Option Value} {base : Heap} (C : Cx0 K mg) : FxE P w K mg base (Str.ofString "does_fit") 4 false 3 [Str.ofString "turn", Str.ofString "sight", Str.ofString "told_kind"] sem_does_fit := by
  obtain ⟨fd, D⟩ := C.df 12
  exact z_def (N := [Str.ofString "turn", Str.ofString "sight", Str.ofString "told_kind", Str.ofString "own", Str.ofString "seat"]) (k := 3) D (fsc_by (by decide +kernel)) (C.gd 12) (fun _ _ _ _ _ _ us h => match us, h with | [a0, a1, a2], _ => rfl) rfl rfl fun cdv A outer s0 H E G =>
     z_ss (z_ifs (z_tnot (z_val (z_b1 (cr_all G.calm) ad_all (by decide +kernel) (C.gf 36) (PE.tb (z_comp (own := [(Str.ofString "own", 3), (Str.ofString "seat", 4)]) G.calm nd_does_fit (PI.ze (z_zip (C.gf 53) (z_var) (z_var))) (blkOk_by rfl) (fun s H C_ cl fp => z_gt G.blk.calm (z_gs (z_g1 nd_does_fit) (z_gs (z_g1 nd_does_fit) (z_gs0)))) (fun s H C_ cl fp => z_ts0) (fun s H C_ cl fp => z_or (z_cmp op_isN ad_isN (PE.tb (z_var)) (PE.tb (z_non)) rfl) (z_one (z_cmp (op_eqA G.blk.u) ad_eq (PE.tb (z_var)) (PE.tb (z_var)) rfl)))))))) (z_s1 (z_ret (z_bl))) (z_sn))
      (z_s1 (z_ret (z_or (z_cmp op_isN ad_isN (PE.tb (z_var)) (PE.tb (z_non)) rfl) (z_one (z_cmp (op_eqA G.u) ad_eq (PE.tb (z_call G (ok_kind_by C) (z_cons (z_var) (z_nil)))) (PE.tb (z_var)) rfl)))))
def sem_fitting_by : FSem := fn false 4 3 (sRet (eComp [3] (.one 3) (iSeq (eCall sem_turns_by (lCons (eVar 0) (lNil)))) (eCall sem_does_fit (lCons (eVar 3) (lCons (eVar 1) (lCons (eVar 2) (lNil))))) (eVar 3)))
theorem nd_fitting_by : ([Str.ofString "seats", Str.ofString "sight", Str.ofString "told_kind", Str.ofString "turn"] : List Str).Nodup := by decide +kernel
theorem ok_fitting_by {P : Program} {w : World} {K : PySem.W.Frag} {mg : Str → Option Value} {base : Heap} (C : Cx0 K mg) : FxE P w K mg base (Str.ofString "fitting_by") 5 false 3 [Str.ofString "seats", Str.ofString "sight", Str.ofString "told_kind"] sem_fitting_by := by
  obtain ⟨fd, D⟩ := C.df 13
  exact z_def (N := [Str.ofString "seats", Str.ofString "sight", Str.ofString "told_kind", Str.ofString "turn"]) (k := 4) D (fsc_by (by decide +kernel)) (C.gd 13) (fun _ _ _ _ _ _ us h => match us, h with | [a0, a1, a2], _ => rfl) rfl rfl fun cdv A outer s0 H E G =>
     z_s1 (z_ret (z_comp (own := [(Str.ofString "turn", 3)]) G.calm nd_fitting_by (z_iB (PE.tb (z_call G (ok_turns_by C) (z_cons (z_var) (z_nil))))) (blkOk_by rfl) (fun s H C_ cl fp => z_g1 nd_fitting_by) (fun s H C_ cl fp => z_ts1 (z_val (z_call G.blk (ok_does_fit C) (z_cons (z_var) (z_cons (z_var) (z_cons (z_var) (z_nil))))))) (fun s H C_ cl fp => z_var)))
def sem_word_by : FSem := fn false 5 3 (sSeq (sAsg (.one 3) (eComp [4] (.one 4) (iSeq (eVar 0)) (eC (.bool true)) (e2 dEq (e2 dIx (eVar 4) (eVar 1)) (eVar 2)))) (sSeq (sIf (e2 dEq (eVar 3) (eLst (lNil))) (sRet (eC (.str "none"))) (sNil)) (sSeq (sIf (e2 dNin (eC (.bool false)) (eVar 3)) (sRet (eC (.str "surely"))) (sNil)) (sRet (eIf (e2 dIn (eC (.bool true)) (eVar 3)) (eC (.str "maybe")) (eC (.str "never")))))))
theorem nd_word_by : ([Str.ofString "turns", Str.ofString "seat", Str.ofString "to", Str.ofString "told", Str.ofString "turn"] : List Str).Nodup := by decide +kernel
theorem ok_word_by {P : Program} {w : World} {K : PySem.W.Frag} {mg : Str → Option Value} {base : Heap} (C : Cx0 K mg) : FxE P w K mg base (Str.ofString "word_by") 1 false 3 [Str.ofString "turns", Str.ofString "seat", Str.ofString "to"] sem_word_by := by
  obtain ⟨fd, D⟩ := C.df 14
  exact z_def (N := [Str.ofString "turns", Str.ofString "seat", Str.ofString "to", Str.ofString "told", Str.ofString "turn"]) (k := 0) D (fsc_by (by decide +kernel)) (C.gd 14) (fun _ _ _ _ _ _ us h => match us, h with | [a0, a1, a2], _ => rfl) rfl rfl fun cdv A outer s0 H E G =>
     z_ss (z_asgC (own := [(Str.ofString "turn", 4)]) G.calm nd_word_by (z_iB (PE.tb (z_var))) (blkOk_by rfl) (fun s H C_ cl fp => z_g1 nd_word_by) (fun s H C_ cl fp => z_ts0) (fun s H C_ cl fp => z_cmp (op_eqA G.blk.u) ad_eq (PE.tb (z_ix (PE.tb (z_var)) (PE.tb (z_var)))) (PE.tb (z_var)) rfl))
      (z_ss (z_ifs (z_tcmp (op_eqA G.u) ad_eq (PE.tb (z_var)) (PE.tb (z_lst (z_nil))) rfl) (z_s1 (z_ret (z_gs' (C.gs 59)))) (z_sn))
      (z_ss (z_ifs (z_tcmp (op_ninA G.u1) ad_nin (PE.tb (z_bl)) (PE.tb (z_var)) rfl) (z_s1 (z_ret (z_gs' (C.gs 56)))) (z_sn))
      (z_s1 (z_ret (z_if (z_tcmp (op_inA G.u1) ad_in (PE.tb (z_bl)) (PE.tb (z_var)) rfl) (z_gs' (C.gs 57)) (z_gs' (C.gs 58)))))))
def sem_best_look_by : FSem := fn false 9 2 (sSeq (sAsg (.one 2) (eC .none)) (sSeq (sFor (.many [3, 4]) (iEnumT (eIf (e2 dGt (e1 dLen (eVar 0)) (eC (.int 1))) (eVar 1) (eTup (lNil)))) (sSeq (sAsg (.one 5) (eComp [7] (.one 7) (iSeq (eVar 0)) (eC (.bool true)) (e2 dIx (eVar 7) (eVar 3)))) (sSeq (sAsg (.one 6) (e1 dMax (eComp [8] (.one 8) (iSeq (eVar 5)) (eC (.bool true)) (e2 (dTy "list" dCount) (eVar 5) (eVar 8))))) (sIf (eAnd (e2 dIsN (eVar 4) (eC .none)) (eOr (e2 dIsN (eVar 2) (eC .none)) (e2 dLt (eVar 6) (e2 dIx (eVar 2) (eC (.int 0)))))) (sAsg (.one 2) (eTup (lCons (eVar 6) (lCons (eVar 3) (lNil))))) (sNil))))) (sRet (eIf (e2 dIsN (eVar 2) (eC .none)) (eC .none) (e2 dIx (eVar 2) (eC (.int 1)))))))
theorem nd_best_look_by : ([Str.ofString "turns", Str.ofString "sight", Str.ofString "best", Str.ofString "seat", Str.ofString "own", Str.ofString "told", Str.ofString "most", Str.ofString "turn", Str.ofString "to"] : List Str).Nodup := by decide +kernel
theorem ok_best_look_by {P : Program} {w : World} {K : PySem.W.Frag} {mg : Str → Option Value} {base : Heap} (C : Cx0 K mg) : FxE P w K mg base (Str.ofString "best_look_by") 1 false 2 [Str.ofString "turns", Str.ofString "sight"] sem_best_look_by := by
  obtain ⟨fd, D⟩ := C.df 15
  exact z_def (N := [Str.ofString "turns", Str.ofString "sight", Str.ofString "best", Str.ofString "seat", Str.ofString "own", Str.ofString "told", Str.ofString "most", Str.ofString "turn", Str.ofString "to"]) (k := 0) D (fsc_by (by decide +kernel)) (C.gd 15) (fun _ _ _ _ _ _ us h => match us, h with | [a0, a1], _ => rfl) rfl rfl fun cdv A outer s0 H E G =>
     z_ss (z_asg (z_non) (z_g1 nd_best_look_by))
      (z_ss (z_for PassesOwn.never G.calm (z_enum (C.gf 40) (z_if (z_tcmp op_gt ad_gt (PE.tb (z_b1 call_len_seq ad_len (by decide +kernel) (C.gf 43) (PE.tb (z_var)))) (PE.tb (z_int)) rfl) (z_var) (z_tup (z_nil)))) (z_gt G.calm (z_gs (z_g1 nd_best_look_by) (z_gs (z_g1 nd_best_look_by) (z_gs0)))) (z_ss (z_asg (z_comp (own := [(Str.ofString "turn", 7)]) G.calm nd_best_look_by (z_iB (PE.tb (z_var))) (blkOk_by rfl) (fun s H C_ cl fp => z_g1 nd_best_look_by) (fun s H C_ cl fp => z_ts0) (fun s H C_ cl fp => z_ix (PE.tb (z_var)) (PE.tb (z_var)))) (z_g1 nd_best_look_by))
      (z_ss (z_asg (z_b1 (call_maxI G.calm G.u) ad_max (by decide +kernel) (C.gf 45) (PE.tb (z_comp (own := [(Str.ofString "to", 8)]) G.calm nd_best_look_by (z_iB (PE.tb (z_var))) (blkOk_by rfl) (fun s H C_ cl fp => z_g1 nd_best_look_by) (fun s H C_ cl fp => z_ts0) (fun s H C_ cl fp => z_mw mt_lcount ad_count (.inl rfl) PySem.F.plainAttrs_list PySem.F.slot_list_count PySem.F.type_list_count (PE.tb (z_var)) (PE.tb (z_var)))))) (z_g1 nd_best_look_by))
      (z_s1 (z_ifs (PW.zt (z_wand (z_tcmp op_isN ad_isN (PE.tb (z_var)) (PE.tb (z_non)) rfl) (z_wand1 (PW.zt (z_wor (z_tcmp op_isN ad_isN (PE.tb (z_var)) (PE.tb (z_non)) rfl) (z_wor1 (z_tcmp op_lt ad_lt (PE.tb (z_var)) (PE.tb (z_ix (PE.tb (z_var)) (PE.tb (z_int)))) rfl))))))) (z_s1 (z_asg (z_tup (z_cons (z_var) (z_cons (z_var) (z_nil)))) (z_g1 nd_best_look_by))) (z_sn))))))
      (z_s1 (z_ret (z_if (z_tcmp op_isN ad_isN (PE.tb (z_var)) (PE.tb (z_non)) rfl) (z_non) (z_ix (PE.tb (z_var)) (PE.tb (z_int)))))))
def sem_is_sight : FSem := fn false 4 2 (sSeq (sIf (eOr (eNot (eCall sem_is_tuple_of (lCons (eVar 1) (lCons (eVar 0) (lNil))))) (eNot (e1 dAll (eComp [3] (.one 3) (iSeq (eVar 1)) (eC (.bool true)) (eOr (e2 dIsN (eVar 3) (eC .none)) (eCall sem_is_seat (lCons (eVar 0) (lCons (eVar 3) (lNil))))))))) (sRet (eC (.bool false))) (sNil)) (sSeq (sAsg (.one 2) (eComp [3] (.one 3) (iSeq (eVar 1)) (e2 dNotN (eVar 3) (eC .none)) (eVar 3))) (sRet (e2 dEq (e1 dLenSet (eVar 2)) (e1 dLen (eVar 2))))))
theorem nd_is_sight : ([Str.ofString "seats", Str.ofString "value", Str.ofString "told", Str.ofString "own"] : List Str).Nodup := by decide +kernel
theorem ok_is_sight {P : Program} {w : World} {K : PySem.W.Frag} {mg : Str → Option Value} {base : Heap} (C : Cx0 K mg) : FxE P w K mg base (Str.ofString "is_sight") 4 false 2 [Str.ofString "seats", Str.ofString "value"] sem_is_sight := by
  obtain ⟨fd, D⟩ := C.df 16
  exact z_def (N := [Str.ofString "seats", Str.ofString "value", Str.ofString "told", Str.ofString "own"]) (k := 3) D (fsc_by (by decide +kernel)) (C.gd 16) (fun _ _ _ _ _ _ us h => match us, h with | [a0, a1], _ => rfl) rfl rfl fun cdv A outer s0 H E G =>
     z_ss (z_ifs (PW.zt (z_wor (z_tnot (z_val (z_call G (ok_is_tuple_of C) (z_cons (z_var) (z_cons (z_var) (z_nil)))))) (z_wor1 (z_tnot (z_val (z_b1 (cr_all G.calm) ad_all (by decide +kernel) (C.gf 36) (PE.tb (z_comp (own := [(Str.ofString "own", 3)]) G.calm nd_is_sight (z_iB (PE.tb (z_var))) (blkOk_by rfl) (fun s H C_ cl fp => z_g1 nd_is_sight) (fun s H C_ cl fp => z_ts0) (fun s H C_ cl fp => z_or (z_cmp op_isN ad_isN (PE.tb (z_var)) (PE.tb (z_non)) rfl) (z_one (z_call G.blk (ok_is_seat C) (z_cons (z_var) (z_cons (z_var) (z_nil)))))))))))))) (z_s1 (z_ret (z_bl))) (z_sn))
      (z_ss (z_asgC (own := [(Str.ofString "own", 3)]) G.calm nd_is_sight (z_iB (PE.tb (z_var))) (blkOk_by rfl) (fun s H C_ cl fp => z_g1 nd_is_sight) (fun s H C_ cl fp => z_ts1 (z_tcmp op_notN ad_notN (PE.tb (z_var)) (PE.tb (z_non)) rfl)) (fun s H C_ cl fp => z_var))
      (z_s1 (z_ret (z_cmp (op_eqA G.u) ad_eq (PE.tb (z_lenSet G.calm (C.gf 43) (C.gf 49) (PE.tb (z_var)))) (PE.tb (z_b1 call_len_seq ad_len (by decide +kernel) (C.gf 43) (PE.tb (z_var)))) rfl))))
def sem_is_told_kind : FSem := fn false 2 2 (sRet (eOr (e2 dIsN (eVar 1) (eC .none)) (eCall sem_is_kind (lCons (eVar 0) (lCons (eVar 1) (lNil))))))
theorem nd_is_told_kind : ([Str.ofString "seats", Str.ofString "value"] : List Str).Nodup := by decide +kernel
theorem ok_is_told_kind {P : Program} {w : World} {K : PySem.W.Frag} {mg : Str → Option Value} {base : Heap} (C : Cx0 K mg) : FxE P w K mg base (Str.ofString "is_told_kind") 4 false 2 [Str.ofString "seats", Str.ofString "value"] sem_is_told_kind := by
  obtain ⟨fd, D⟩ := C.df 17
  exact z_def (N := [Str.ofString "seats", Str.ofString "value"]) (k := 3) D (fsc_by (by decide +kernel)) (C.gd 17) (fun _ _ _ _ _ _ us h => match us, h with | [a0, a1], _ => rfl) rfl rfl fun cdv A outer s0 H E G =>
     z_s1 (z_ret (z_or (z_cmp op_isN ad_isN (PE.tb (z_var)) (PE.tb (z_non)) rfl) (z_one (z_call G (ok_is_kind C) (z_cons (z_var) (z_cons (z_var) (z_nil)))))))
def sem_check_seen : FSem := fn false 3 3 (sSeq (sExp (eCall sem_check_seats (lCons (eVar 0) (lNil)))) (sSeq (sIf (eNot (eCall sem_is_sight (lCons (eVar 0) (lCons (eVar 1) (lNil))))) (sFail) (sNil)) (sIf (eNot (eCall sem_is_told_kind (lCons (eVar 0) (lCons (eVar 2) (lNil))))) (sFail) (sNil))))
theorem nd_check_seen : ([Str.ofString "seats", Str.ofString "sight", Str.ofString "told_kind"] : List Str).Nodup := by decide +kernel
theorem ok_check_seen {P : Program} {w : World} {K : PySem.W.Frag} {mg : Str → Option Value} {base : Heap} (C : Cx0 K mg) : FxE P w K mg base (Str.ofString "check_seen") 5 false 3 [Str.ofString "seats", Str.ofString "sight", Str.ofString "told_kind"] sem_check_seen := by
  obtain ⟨fd, D⟩ := C.df 18
  exact z_def (N := [Str.ofString "seats", Str.ofString "sight", Str.ofString "told_kind"]) (k := 4) D (fsc_by (by decide +kernel)) (C.gd 18) (fun _ _ _ _ _ _ us h => match us, h with | [a0, a1, a2], _ => rfl) rfl rfl fun cdv A outer s0 H E G =>
     z_ss (z_exp (z_call G (ok_check_seats C) (z_cons (z_var) (z_nil))))
      (z_ss (z_ifs (z_tnot (z_val (z_call G (ok_is_sight C) (z_cons (z_var) (z_cons (z_var) (z_nil)))))) (z_s1 (z_never)) (z_sn))
      (z_s1 (z_ifs (z_tnot (z_val (z_call G (ok_is_told_kind C) (z_cons (z_var) (z_cons (z_var) (z_nil)))))) (z_s1 (z_never)) (z_sn))))
def sem_count_fitting : FSem := fn false 3 3 (sSeq (sExp (eCall sem_check_seen (lCons (eVar 0) (lCons (eVar 1) (lCons (eVar 2) (lNil)))))) (sRet (e1 dLen (eCall sem_fitting_by (lCons (eVar 0) (lCons (eVar 1) (lCons (eVar 2) (lNil))))))))
theorem nd_count_fitting : ([Str.ofString "seats", Str.ofString "sight", Str.ofString "told_kind"] : List Str).Nodup := by decide +kernel
theorem ok_count_fitting {P : Program} {w : World} {K : PySem.W.Frag} {mg : Str → Option Value} {base : Heap} (C : Cx0 K mg) : FxE P w K mg base (Str.ofString "count_fitting") 6 false 3 [Str.ofString "seats", Str.ofString "sight", Str.ofString "told_kind"] sem_count_fitting := by
  obtain ⟨fd, D⟩ := C.df 19
  exact z_def (N := [Str.ofString "seats", Str.ofString "sight", Str.ofString "told_kind"]) (k := 5) D (fsc_by (by decide +kernel)) (C.gd 19) (fun _ _ _ _ _ _ us h => match us, h with | [a0, a1, a2], _ => rfl) rfl rfl fun cdv A outer s0 H E G =>
     z_ss (z_exp (z_call G (ok_check_seen C) (z_cons (z_var) (z_cons (z_var) (z_cons (z_var) (z_nil))))))
      (z_s1 (z_ret (z_b1 call_len_seq ad_len (by decide +kernel) (C.gf 43) (PE.tb (z_call G (ok_fitting_by C) (z_cons (z_var) (z_cons (z_var) (z_cons (z_var) (z_nil)))))))))
def sem_word : FSem := fn false 5 5 (sSeq (sExp (eCall sem_check_seen (lCons (eVar 0) (lCons (eVar 1) (lCons (eVar 2) (lNil)))))) (sSeq (sExp (eCall sem_check_seat (lCons (eVar 0) (lCons (eVar 3) (lNil))))) (sSeq (sExp (eCall sem_check_seat (lCons (eVar 0) (lCons (eVar 4) (lNil))))) (sRet (eCall sem_word_by (lCons (eCall sem_fitting_by (lCons (eVar 0) (lCons (eVar 1) (lCons (eVar 2) (lNil))))) (lCons (eVar 3) (lCons (eVar 4) (lNil)))))))))
theorem nd_word : ([Str.ofString "seats", Str.ofString "sight", Str.ofString "told_kind", Str.ofString "seat", Str.ofString "to"] : List Str).Nodup := by decide +kernel
theorem ok_word {P : Program} {w : World} {K : PySem.W.Frag} {mg : Str → Option Value} {base : Heap} (C : Cx0 K mg) : FxE P w K mg base (Str.ofString "word") 6 false 5 [Str.ofString "seats", Str.ofString "sight", Str.ofString "told_kind", Str.ofString "seat", Str.ofString "to"] sem_word := by
  obtain ⟨fd, D⟩ := C.df 20
  exact z_def (N := [Str.ofString "seats", Str.ofString "sight", Str.ofString "told_kind", Str.ofString "seat", Str.ofString "to"]) (k := 5) D (fsc_by (by decide +kernel)) (C.gd 20) (fun _ _ _ _ _ _ us h => match us, h with | [a0, a1, a2, a3, a4], _ => rfl) rfl rfl fun cdv A outer s0 H E G =>
     z_ss (z_exp (z_call G (ok_check_seen C) (z_cons (z_var) (z_cons (z_var) (z_cons (z_var) (z_nil))))))
      (z_ss (z_exp (z_call G (ok_check_seat C) (z_cons (z_var) (z_cons (z_var) (z_nil)))))
      (z_ss (z_exp (z_call G (ok_check_seat C) (z_cons (z_var) (z_cons (z_var) (z_nil)))))
      (z_s1 (z_ret (z_call G (ok_word_by C) (z_cons (z_call G (ok_fitting_by C) (z_cons (z_var) (z_cons (z_var) (z_cons (z_var) (z_nil))))) (z_cons (z_var) (z_cons (z_var) (z_nil)))))))))
def sem_best_look : FSem := fn false 3 3 (sSeq (sExp (eCall sem_check_seen (lCons (eVar 0) (lCons (eVar 1) (lCons (eVar 2) (lNil)))))) (sRet (eCall sem_best_look_by (lCons (eCall sem_fitting_by (lCons (eVar 0) (lCons (eVar 1) (lCons (eVar 2) (lNil))))) (lCons (eVar 1) (lNil))))))
theorem nd_best_look : ([Str.ofString "seats", Str.ofString "sight", Str.ofString "told_kind"] : List Str).Nodup := by decide +kernel
theorem ok_best_look {P : Program} {w : World} {K : PySem.W.Frag} {mg : Str → Option Value} {base : Heap} (C : Cx0 K mg) : FxE P w K mg base (Str.ofString "best_look") 6 false 3 [Str.ofString "seats", Str.ofString "sight", Str.ofString "told_kind"] sem_best_look := by
  obtain ⟨fd, D⟩ := C.df 21
  exact z_def (N := [Str.ofString "seats", Str.ofString "sight", Str.ofString "told_kind"]) (k := 5) D (fsc_by (by decide +kernel)) (C.gd 21) (fun _ _ _ _ _ _ us h => match us, h with | [a0, a1, a2], _ => rfl) rfl rfl fun cdv A outer s0 H E G =>
     z_ss (z_exp (z_call G (ok_check_seen C) (z_cons (z_var) (z_cons (z_var) (z_cons (z_var) (z_nil))))))
      (z_s1 (z_ret (z_call G (ok_best_look_by C) (z_cons (z_call G (ok_fitting_by C) (z_cons (z_var) (z_cons (z_var) (z_cons (z_var) (z_nil))))) (z_cons (z_var) (z_nil))))))
def sem__law_take : FSem := fn true 3 1 (sSeq (sIf (e2 dGt (eBg 0 0) (eC (.int 0))) (sSeq (sBgDiv 0 2 (eVar 1)) (sRet (eVar 2))) (sNil)) (sSeq (sBgSet 0 2 (e2 dAdd (eBg 0 2) (eC (.int 1)))) (sSeq (sBgSet 0 1 (e2 dMod (e1 dInt (e2 dAdd (e2 dAdd (e2 dMul (eBg 0 1) (eC (.int 16807))) (e2 dMul (eC (.int 4099)) (eBg 0 2))) (eC (.int 1)))) (eC (.int 2147483647)))) (sRet (e2 dMod (e1 dInt (e2 dDiv (eBg 0 1) (eC (.int 911)))) (eVar 1))))))
theorem nd__law_take : ([Str.ofString "bag", Str.ofString "top", Str.ofString "digit"] : List Str).Nodup := by decide +kernel
theorem ok__law_take {P : Program} {w : World} {K : PySem.W.Frag} {mg : Str → Option Value} {base : Heap} (C : Cx0 K mg) : FxE P w K mg base (Str.ofString "_law_take") 1 true 1 [Str.ofString "bag", Str.ofString "top"] sem__law_take := by
  obtain ⟨fd, D⟩ := C.df 23
  exact z_def (N := [Str.ofString "bag", Str.ofString "top", Str.ofString "digit"]) (k := 0) D (fsc_by (by decide +kernel)) (C.gd 23) (fun _ _ _ _ _ _ us h => match us, h with | [a0, a1], _ => rfl) rfl rfl fun cdv A outer s0 H E G =>
     z_ss (z_ifs (z_tcmp op_gt ad_gt (PE.tb (z_bg (k := 0))) (PE.tb (z_int)) rfl) (z_ss (z_bgDiv G.calm nd__law_take (C.gf 39) (z_var))
      (z_s1 (z_ret (z_var)))) (z_sn))
      (z_ss (z_bgSet (k := 2) (z_bin op_addA ad_add (PE.tb (z_bg (k := 2))) (PE.tb (z_int))))
      (z_ss (z_bgSet (k := 1) (z_bin op_modA ad_mod (PE.tb (z_t1 call_int1 ad_int (by decide +kernel) (C.gf 41) (PE.tb (z_bin op_addA ad_add (PE.tb (z_bin op_addA ad_add (PE.tb (z_bin op_mulA ad_mul (PE.tb (z_bg (k := 1))) (PE.tb (z_int)))) (PE.tb (z_bin op_mulA ad_mul (PE.tb (z_int)) (PE.tb (z_bg (k := 2))))))) (PE.tb (z_int)))))) (PE.tb (z_int))))
      (z_s1 (z_ret (z_bin op_modA ad_mod (PE.tb (z_t1 call_int1 ad_int (by decide +kernel) (C.gf 41) (PE.tb (z_bin op_divA ad_div (PE.tb (z_bg (k := 1))) (PE.tb (z_int)))))) (PE.tb (z_var)))))))
def sem__law_turns : FSem := fn false 6 1 (sSeq (sAsg (.one 1) (eLst (lCons (eTup (lNil)) (lNil)))) (sSeq (sFor (.one 2) (iRng1 (eVar 0)) (sSeq (sAsg (.one 3) (eLst (lNil))) (sSeq (sFor (.one 4) (iSeq (eVar 1)) (sAsg (.one 3) (e2 dAdd (eVar 3) (eComp [5] (.one 5) (iRng1 (eVar 0)) (e2 dNin (eVar 5) (eVar 4)) (e2 dAdd (eVar 4) (eTup (lCons (eVar 5) (lNil)))))))) (sAsg (.one 1) (eVar 3))))) (sRet (eVar 1))))
theorem nd__law_turns : ([Str.ofString "seats", Str.ofString "found", Str.ofString "turn", Str.ofString "longer", Str.ofString "some", Str.ofString "k"] : List Str).Nodup := by decide +kernel
theorem ok__law_turns {P : Program} {w : World} {K : PySem.W.Frag} {mg : Str → Option Value} {base : Heap} (C : Cx0 K mg) : FxE P w K mg base (Str.ofString "_law_turns") 1 false 1 [Str.ofString "seats"] sem__law_turns := by
  obtain ⟨fd, D⟩ := C.df 24
  exact z_def (N := [Str.ofString "seats", Str.ofString "found", Str.ofString "turn", Str.ofString "longer", Str.ofString "some", Str.ofString "k"]) (k := 0) D (fsc_by (by decide +kernel)) (C.gd 24) (fun _ _ _ _ _ _ us h => match us, h with | [a0], _ => rfl) rfl rfl fun cdv A outer s0 H E G =>
     z_ss (z_asg (z_lst (z_cons (z_tup (z_nil)) (z_nil))) (z_g1 nd__law_turns))
      (z_ss (z_for PassesOwn.never G.calm (z_r1 (C.gf 47) (PE.tb (z_var))) (z_g1 nd__law_turns) (z_ss (z_asg (z_lst (z_nil)) (z_g1 nd__law_turns))
      (z_ss (z_for PassesOwn.never G.calm (z_iS (z_var)) (z_g1 nd__law_turns) (z_s1 (z_asg (z_bin op_addA ad_add (PE.tb (z_var)) (PE.tb (z_comp (own := [(Str.ofString "k", 5)]) G.calm nd__law_turns (PI.ze (z_r1 (C.gf 47) (PE.tb (z_var)))) (blkOk_by rfl) (fun s H C_ cl fp => z_g1 nd__law_turns) (fun s H C_ cl fp => z_ts1 (z_tcmp (op_ninA G.blk.u1) ad_nin (PE.tb (z_var)) (PE.tb (z_var)) rfl)) (fun s H C_ cl fp => z_bin op_addA ad_add (PE.tb (z_var)) (PE.tb (z_tup (z_cons (z_var) (z_nil)))))))) (z_g1 nd__law_turns))))
      (z_s1 (z_asg (z_var) (z_g1 nd__law_turns))))))
      (z_s1 (z_ret (z_var))))
def sem__law_rings : FSem := fn false 6 1 (sSeq (sPar 2 3 0 0 (eLst (lNil)) (eLst (lNil))) (sSeq (sFor (.one 1) (iRng1 (e1 dLen (eVar 0))) (sIf (e2 dNin (eVar 1) (eVar 3)) (sSeq (sPar 4 5 0 0 (eTup (lCons (eVar 1) (lNil))) (e2 dIx (eVar 0) (eVar 1))) (sSeq (sWhl (e2 dNe (eVar 5) (eVar 1)) (sPar 4 5 0 0 (e2 dAdd (eVar 4) (eTup (lCons (eVar 5) (lNil)))) (e2 dIx (eVar 0) (eVar 5)))) (sPar 2 3 0 0 (e2 dAdd (eVar 2) (eLst (lCons (eVar 4) (lNil)))) (e2 dAdd (eVar 3) (e1 dList (eVar 4)))))) (sNil))) (sRet (e1 dTuple (eVar 2)))))
theorem nd__law_rings : ([Str.ofString "turn", Str.ofString "seat", Str.ofString "found", Str.ofString "had", Str.ofString "ring", Str.ofString "now"] : List Str).Nodup := by decide +kernel
theorem ok__law_rings {P : Program} {w : World} {K : PySem.W.Frag} {mg : Str → Option Value} {base : Heap} (C : Cx0 K mg) : FxE P w K mg base (Str.ofString "_law_rings") 1 false 1 [Str.ofString "turn"] sem__law_rings := by
  obtain ⟨fd, D⟩ := C.df 25
  exact z_def (N := [Str.ofString "turn", Str.ofString "seat", Str.ofString "found", Str.ofString "had", Str.ofString "ring", Str.ofString "now"]) (k := 0) D (fsc_by (by decide +kernel)) (C.gd 25) (fun _ _ _ _ _ _ us h => match us, h with | [a0], _ => rfl) rfl rfl fun cdv A outer s0 H E G =>
     z_ss (z_par G.calm nd__law_rings (z_m0 (z_lst (z_nil))) (z_m0 (z_lst (z_nil))))
      (z_ss (z_for PassesOwn.never G.calm (z_r1 (C.gf 47) (PE.tb (z_b1 call_len_seq ad_len (by decide +kernel) (C.gf 43) (PE.tb (z_var))))) (z_g1 nd__law_rings) (z_s1 (z_ifs (z_tcmp (op_ninA G.u1) ad_nin (PE.tb (z_var)) (PE.tb (z_var)) rfl) (z_ss (z_par G.calm nd__law_rings (z_m0 (z_tup (z_cons (z_var) (z_nil)))) (z_m0 (z_ix (PE.tb (z_var)) (PE.tb (z_var)))))
      (z_ss (z_whl PassesOwn.never (z_tcmp (op_neA G.u) ad_ne (PE.tb (z_var)) (PE.tb (z_var)) rfl) (z_s1 (z_par G.calm nd__law_rings (z_m0 (z_bin op_addA ad_add (PE.tb (z_var)) (PE.tb (z_tup (z_cons (z_var) (z_nil)))))) (z_m0 (z_ix (PE.tb (z_var)) (PE.tb (z_var)))))))
      (z_s1 (z_par G.calm nd__law_rings (z_m0 (z_bin op_addA ad_add (PE.tb (z_var)) (PE.tb (z_lst (z_cons (z_var) (z_nil)))))) (z_m0 (z_bin op_addA ad_add (PE.tb (z_var)) (PE.tb (z_t1 call_list_of ad_list (by decide +kernel) (C.gf 44) (PE.tb (z_var)))))))))) (z_sn))))
      (z_s1 (z_ret (z_t1 call_tupleF ad_tuple (by decide +kernel) (C.gf 52) (PE.tb (z_var))))))
def sem__law_kind : FSem := fn false 2 1 (sRet (e1 dTuple (e1 dRev (e1 dSortI (eComp [1] (.one 1) (iSeq (eCall sem__law_rings (lCons (eVar 0) (lNil)))) (eC (.bool true)) (e1 dLen (eVar 1)))))))
theorem nd__law_kind : ([Str.ofString "turn", Str.ofString "ring"] : List Str).Nodup := by decide +kernel
theorem ok__law_kind {P : Program} {w : World} {K : PySem.W.Frag} {mg : Str → Option Value} {base : Heap} (C : Cx0 K mg) : FxE P w K mg base (Str.ofString "_law_kind") 2 false 1 [Str.ofString "turn"] sem__law_kind := by
  obtain ⟨fd, D⟩ := C.df 26
  exact z_def (N := [Str.ofString "turn", Str.ofString "ring"]) (k := 1) D (fsc_by (by decide +kernel)) (C.gd 26) (fun _ _ _ _ _ _ us h => match us, h with | [a0], _ => rfl) rfl rfl fun cdv A outer s0 H E G =>
     z_s1 (z_ret (z_t1 call_tupleF ad_tuple (by decide +kernel) (C.gf 52) (PE.tb (z_rev (PE.tb (z_b1 cr_sortedI ad_sortI (by decide +kernel) (C.gf 50) (PE.tb (z_comp (own := [(Str.ofString "ring", 1)]) G.calm nd__law_kind (z_iB (PE.tb (z_call G (ok__law_rings C) (z_cons (z_var) (z_nil))))) (blkOk_by rfl) (fun s H C_ cl fp => z_g1 nd__law_kind) (fun s H C_ cl fp => z_ts0) (fun s H C_ cl fp => z_b1 call_len_seq ad_len (by decide +kernel) (C.gf 43) (PE.tb (z_var)))))))))))
def sem__law_other : FSem := fn true 4 1 (sSeq (sPar 2 3 1 0 (eRngL (iRng1 (eVar 1))) (eTup (lNil))) (sSeq (sWhl (e2 dNe (eOwn 2) (eLst (lNil))) (sPopCat 3 2 (eCallB 0 sem__law_take (lCons (e1 dLen (eOwn 2)) (lNil))))) (sRet (eVar 3))))
theorem nd__law_other : ([Str.ofString "bag", Str.ofString "seats", Str.ofString "left", Str.ofString "found"] : List Str).Nodup := by decide +kernel
theorem ok__law_other {P : Program} {w : World} {K : PySem.W.Frag} {mg : Str → Option Value} {base : Heap} (C : Cx0 K mg) : FxE P w K mg base (Str.ofString "_law_other") 2 true 1 [Str.ofString "bag", Str.ofString "seats"] sem__law_other := by
  obtain ⟨fd, D⟩ := C.df 28
  exact z_def (N := [Str.ofString "bag", Str.ofString "seats", Str.ofString "left", Str.ofString "found"]) (k := 1) D (fsc_by (by decide +kernel)) (C.gd 28) (fun _ _ _ _ _ _ us h => match us, h with | [a0, a1], _ => rfl) rfl rfl fun cdv A outer s0 H E G =>
     z_ss (z_par G.calm nd__law_other (z_listRO G.calm (C.gf 44) (z_g1r (C.gf 47) (PE.tb (z_var)))) (z_m0 (z_tup (z_nil))))
      (z_ss (z_whl PassesOwn.never (z_tcmp (op_neA G.u) ad_ne (z_own) (PE.tb (z_lst (z_nil))) rfl) (z_s1 (z_popCat nd__law_other (pe_op op_catF (pv 3) (pe_tupF (pa_cons (pe_bm PySem.F.plainAttrs_list PySem.F.slot_list_pop PySem.F.type_list_pop mt_popAt (pv 2) (pa_cons (z_callB G (ok__law_take C) (z_cons (z_b1 call_len_seq ad_len (by decide +kernel) (C.gf 43) (z_own)) (z_nil))) pa_nil)) pa_nil))))))
      (z_s1 (z_ret (z_var))))
def sem__law_drawn : FSem := fn true 4 2 (sSeq (sAsg (.one 3) (e2 dAdd (eVar 1) (eCallB 0 sem__law_take (lCons (e2 dAdd (e2 dSub (eVar 2) (eVar 1)) (eC (.int 1))) (lNil))))) (sRet (eTup (lCons (eVar 3) (lCons (eCallB 0 sem__law_other (lCons (eVar 3) (lNil))) (lNil))))))
theorem nd__law_drawn : ([Str.ofString "bag", Str.ofString "least", Str.ofString "most", Str.ofString "seats"] : List Str).Nodup := by decide +kernel
theorem ok__law_drawn {P : Program} {w : World} {K : PySem.W.Frag} {mg : Str → Option Value} {base : Heap} (C : Cx0 K mg) : FxE P w K mg base (Str.ofString "_law_drawn") 3 true 2 [Str.ofString "bag", Str.ofString "least", Str.ofString "most"] sem__law_drawn := by
  obtain ⟨fd, D⟩ := C.df 27
  exact z_def (N := [Str.ofString "bag", Str.ofString "least", Str.ofString "most", Str.ofString "seats"]) (k := 2) D (fsc_by (by decide +kernel)) (C.gd 27) (fun _ _ _ _ _ _ us h => match us, h with | [a0, a1, a2], _ => rfl) rfl rfl fun cdv A outer s0 H E G =>
     z_ss (z_asg (z_bin op_addA ad_add (PE.tb (z_var)) (PE.tb (z_callB G (ok__law_take C) (z_cons (z_bin op_addA ad_add (PE.tb (z_bin op_sub ad_sub (PE.tb (z_var)) (PE.tb (z_var)))) (PE.tb (z_int))) (z_nil))))) (z_g1 nd__law_drawn))
      (z_s1 (z_ret (z_tup (z_cons (z_var) (z_cons (z_callB G (ok__law_other C) (z_cons (z_var) (z_nil))) (z_nil))))))
def sem__law_sight : FSem := fn true 3 1 (sRet (e1 dTuple (eComp [2] (.one 2) (iSeq (eVar 1)) (eC (.bool true)) (eIf (e2 dEq (eCallB 0 sem__law_take (lCons (eC (.int 3)) (lNil))) (eC (.int 0))) (eVar 2) (eC .none)))))
theorem nd__law_sight : ([Str.ofString "bag", Str.ofString "turn", Str.ofString "goal"] : List Str).Nodup := by decide +kernel
theorem ok__law_sight {P : Program} {w : World} {K : PySem.W.Frag} {mg : Str → Option Value} {base : Heap} (C : Cx0 K mg) : FxE P w K mg base (Str.ofString "_law_sight") 2 true 1 [Str.ofString "bag", Str.ofString "turn"] sem__law_sight := by
  obtain ⟨fd, D⟩ := C.df 29
  exact z_def (N := [Str.ofString "bag", Str.ofString "turn", Str.ofString "goal"]) (k := 1) D (fsc_by (by decide +kernel)) (C.gd 29) (fun _ _ _ _ _ _ us h => match us, h with | [a0, a1], _ => rfl) rfl rfl fun cdv A outer s0 H E G =>
     z_s1 (z_ret (z_t1 call_tupleF ad_tuple (by decide +kernel) (C.gf 52) (PE.tb (z_comp (own := [(Str.ofString "goal", 2)]) G.calm nd__law_sight (z_iB (PE.tb (z_var))) (blkOk_by rfl) (fun s H C_ cl fp => z_g1 nd__law_sight) (fun s H C_ cl fp => z_ts0) (fun s H C_ cl fp => z_if (z_tcmp (op_eqA G.blk.u) ad_eq (PE.tb (z_callB G.blk (ok__law_take C) (z_cons (z_int) (z_nil)))) (PE.tb (z_int)) rfl) (z_var) (z_non))))))
def sem__law_fits : FSem := fn false 7 3 (sSeq (sAsg (.one 3) (eLst (lNil))) (sSeq (sFor (.one 4) (iSeq (eCall sem__law_turns (lCons (eVar 0) (lNil)))) (sIf (eNot (e1 dAny (eComp [5, 6] (.many [5, 6]) (iZipS (eVar 1) (eVar 4)) (eC (.bool true)) (eAnd (e2 dNotN (eVar 5) (eC .none)) (e2 dNe (eVar 5) (eVar 6)))))) (sAsg (.one 3) (e2 dAdd (eVar 3) (eIf (eOr (e2 dIsN (eVar 2) (eC .none)) (e2 dEq (eCall sem__law_kind (lCons (eVar 4) (lNil))) (eVar 2))) (eLst (lCons (eVar 4) (lNil))) (eLst (lNil))))) (sNil))) (sRet (eVar 3))))
theorem nd__law_fits : ([Str.ofString "seats", Str.ofString "sight", Str.ofString "kind", Str.ofString "found", Str.ofString "turn", Str.ofString "told", Str.ofString "goal"] : List Str).Nodup := by decide +kernel
theorem ok__law_fits {P : Program} {w : World} {K : PySem.W.Frag} {mg : Str → Option Value} {base : Heap} (C : Cx0 K mg) : FxE P w K mg base (Str.ofString "_law_fits") 3 false 3 [Str.ofString "seats", Str.ofString "sight", Str.ofString "kind"] sem__law_fits := by
  obtain ⟨fd, D⟩ := C.df 30
  exact z_def (N := [Str.ofString "seats", Str.ofString "sight", Str.ofString "kind", Str.ofString "found", Str.ofString "turn", Str.ofString "told", Str.ofString "goal"]) (k := 2) D (fsc_by (by decide +kernel)) (C.gd 30) (fun _ _ _ _ _ _ us h => match us, h with | [a0, a1, a2], _ => rfl) rfl rfl fun cdv A outer s0 H E G =>
     z_ss (z_asg (z_lst (z_nil)) (z_g1 nd__law_fits))
      (z_ss (z_for PassesOwn.never G.calm (z_iS (z_call G (ok__law_turns C) (z_cons (z_var) (z_nil)))) (z_g1 nd__law_fits) (z_s1 (z_ifs (z_tnot (z_val (z_b1 (cr_any G.calm) ad_any (by decide +kernel) (C.gf 37) (PE.tb (z_comp (own := [(Str.ofString "told", 5), (Str.ofString "goal", 6)]) G.calm nd__law_fits (PI.ze (z_zip (C.gf 53) (z_var) (z_var))) (blkOk_by rfl) (fun s H C_ cl fp => z_gt G.blk.calm (z_gs (z_g1 nd__law_fits) (z_gs (z_g1 nd__law_fits) (z_gs0)))) (fun s H C_ cl fp => z_ts0) (fun s H C_ cl fp => z_and (z_cmp op_notN ad_notN (PE.tb (z_var)) (PE.tb (z_non)) rfl) (z_one (z_cmp (op_neA G.blk.u) ad_ne (PE.tb (z_var)) (PE.tb (z_var)) rfl)))))))) (z_s1 (z_asg (z_bin op_addA ad_add (PE.tb (z_var)) (PE.tb (z_if (PW.zt (z_wor (z_tcmp op_isN ad_isN (PE.tb (z_var)) (PE.tb (z_non)) rfl) (z_wor1 (z_tcmp (op_eqA G.u) ad_eq (PE.tb (z_call G (ok__law_kind C) (z_cons (z_var) (z_nil)))) (PE.tb (z_var)) rfl)))) (z_lst (z_cons (z_var) (z_nil))) (z_lst (z_nil))))) (z_g1 nd__law_fits))) (z_sn))))
      (z_s1 (z_ret (z_var))))
def sem__law_best_look : FSem := fn false 8 2 (sSeq (sAsg (.one 2) (eC .none)) (sSeq (sFor (.one 3) (iRng1 (e1 dLen (eVar 1))) (sIf (eAnd (e2 dIsN (e2 dIx (eVar 1) (eVar 3)) (eC .none)) (e2 dGt (e1 dLen (eVar 0)) (eC (.int 1)))) (sSeq (sAsg (.one 4) (eComp [6] (.one 6) (iSeq (eVar 0)) (eC (.bool true)) (e2 dIx (eVar 6) (eVar 3)))) (sSeq (sAsg (.one 5) (e1 dMax (eComp [7] (.one 7) (iSeq (e1 dSortSet (eVar 4))) (eC (.bool true)) (e2 (dTy "list" dCount) (eVar 4) (eVar 7))))) (sAsg (.one 2) (eIf (eOr (e2 dIsN (eVar 2) (eC .none)) (e2 dLt (eVar 5) (e2 dIx (eVar 2) (eC (.int 0))))) (eTup (lCons (eVar 5) (lCons (eVar 3) (lNil)))) (eVar 2))))) (sNil))) (sRet (eIf (e2 dNotN (eVar 2) (eC .none)) (e2 dIx (eVar 2) (eC (.int 1))) (eC .none)))))
theorem nd__law_best_look : ([Str.ofString "some", Str.ofString "sight", Str.ofString "best", Str.ofString "seat", Str.ofString "seen", Str.ofString "most", Str.ofString "turn", Str.ofString "goal"] : List Str).Nodup := by decide +kernel
theorem ok__law_best_look {P : Program} {w : World} {K : PySem.W.Frag} {mg : Str → Option Value} {base : Heap} (C : Cx0 K mg) : FxE P w K mg base (Str.ofString "_law_best_look") 1 false 2 [Str.ofString "some", Str.ofString "sight"] sem__law_best_look := by
  obtain ⟨fd, D⟩ := C.df 31
  exact z_def (N := [Str.ofString "some", Str.ofString "sight", Str.ofString "best", Str.ofString "seat", Str.ofString "seen", Str.ofString "most", Str.ofString "turn", Str.ofString "goal"]) (k := 0) D (fsc_by (by decide +kernel)) (C.gd 31) (fun _ _ _ _ _ _ us h => match us, h with | [a0, a1], _ => rfl) rfl rfl fun cdv A outer s0 H E G =>
     z_ss (z_asg (z_non) (z_g1 nd__law_best_look))
      (z_ss (z_for PassesOwn.never G.calm (z_r1 (C.gf 47) (PE.tb (z_b1 call_len_seq ad_len (by decide +kernel) (C.gf 43) (PE.tb (z_var))))) (z_g1 nd__law_best_look) (z_s1 (z_ifs (PW.zt (z_wand (z_tcmp op_isN ad_isN (PE.tb (z_ix (PE.tb (z_var)) (PE.tb (z_var)))) (PE.tb (z_non)) rfl) (z_wand1 (z_tcmp op_gt ad_gt (PE.tb (z_b1 call_len_seq ad_len (by decide +kernel) (C.gf 43) (PE.tb (z_var)))) (PE.tb (z_int)) rfl)))) (z_ss (z_asg (z_comp (own := [(Str.ofString "turn", 6)]) G.calm nd__law_best_look (z_iB (PE.tb (z_var))) (blkOk_by rfl) (fun s H C_ cl fp => z_g1 nd__law_best_look) (fun s H C_ cl fp => z_ts0) (fun s H C_ cl fp => z_ix (PE.tb (z_var)) (PE.tb (z_var)))) (z_g1 nd__law_best_look))
      (z_ss (z_asg (z_b1 (call_maxI G.calm G.u) ad_max (by decide +kernel) (C.gf 45) (PE.tb (z_comp (own := [(Str.ofString "goal", 7)]) G.calm nd__law_best_look (z_iB (PE.tb (z_sortSet G.calm (C.gf 50) (C.gf 49) (PE.tb (z_var))))) (blkOk_by rfl) (fun s H C_ cl fp => z_g1 nd__law_best_look) (fun s H C_ cl fp => z_ts0) (fun s H C_ cl fp => z_mw mt_lcount ad_count (.inl rfl) PySem.F.plainAttrs_list PySem.F.slot_list_count PySem.F.type_list_count (PE.tb (z_var)) (PE.tb (z_var)))))) (z_g1 nd__law_best_look))
      (z_s1 (z_asg (z_if (PW.zt (z_wor (z_tcmp op_isN ad_isN (PE.tb (z_var)) (PE.tb (z_non)) rfl) (z_wor1 (z_tcmp op_lt ad_lt (PE.tb (z_var)) (PE.tb (z_ix (PE.tb (z_var)) (PE.tb (z_int)))) rfl)))) (z_tup (z_cons (z_var) (z_cons (z_var) (z_nil)))) (z_var)) (z_g1 nd__law_best_look))))) (z_sn))))
      (z_s1 (z_ret (z_if (z_tcmp op_notN ad_notN (PE.tb (z_var)) (PE.tb (z_non)) rfl) (z_ix (PE.tb (z_var)) (PE.tb (z_int))) (z_non)))))
def sem__law_right : FSem := fn true 14 0 (sSeq (sAsg (.many [5, 6]) (eCallB 0 sem__law_drawn (lCons (eC (.int 2)) (lCons (eC (.int 5)) (lNil))))) (sSeq (sPar 7 8 0 0 (eCallB 0 sem__law_sight (lCons (eVar 6) (lNil))) (eIf (e2 dEq (eCallB 0 sem__law_take (lCons (eC (.int 2)) (lNil))) (eC (.int 0))) (eCall sem__law_kind (lCons (eVar 6) (lNil))) (eC .none))) (sSeq (sIf (e2 dEq (eCallB 0 sem__law_take (lCons (eC (.int 4)) (lNil))) (eC (.int 0))) (sAsg (.one 8) (eCall sem__law_kind (lCons (eCallB 0 sem__law_other (lCons (eVar 5) (lNil))) (lNil)))) (sNil)) (sSeq (sAsg (.one 1) (eCall sem__law_fits (lCons (eVar 5) (lCons (eVar 7) (lCons (eVar 8) (lNil)))))) (sSeq (sAsg (.one 2) (eLst (lCons (eCall sem_count_fitting (lCons (eVar 5) (lCons (eVar 7) (lCons (eVar 8) (lNil))))) (lCons (eCallK sem_count_fitting (permL [2, 1, 0]) (lCons (eVar 8) (lCons (eVar 7) (lCons (eVar 5) (lNil))))) (lNil))))) (sSeq (sIf (e2 dReprNe (eVar 2) (e2 dMul (eLst (lCons (e1 dLen (eVar 1)) (lNil))) (eC (.int 2)))) (sRet (eC (.bool false))) (sNil)) (sSeq (sAsg (.one 3) (eCall sem__law_best_look (lCons (eVar 1) (lCons (eVar 7) (lNil))))) (sSeq (sIf (e2 dReprNe (eLst (lCons (eCall sem_best_look (lCons (eVar 5) (lCons (eVar 7) (lCons (eVar 8) (lNil))))) (lCons (eCallK sem_best_look (permL [2, 1, 0]) (lCons (eVar 8) (lCons (eVar 7) (lCons (eVar 5) (lNil))))) (lNil)))) (eLst (lCons (eVar 3) (lCons (eVar 3) (lNil))))) (sRet (eC (.bool false))) (sNil)) (sSeq (sFor (.one 4) (iRng1 (eC (.int 4))) (sSeq (sAsg (.many [11, 12]) (eTup (lCons (eCallB 0 sem__law_take (lCons (eVar 5) (lNil))) (lCons (eCallB 0 sem__law_take (lCons (eVar 5) (lNil))) (lNil))))) (sSeq (sAsg (.one 9) (eComp [13] (.one 13) (iSeq (eVar 1)) (eC (.bool true)) (e2 dEq (e2 dIx (eVar 13) (eVar 11)) (eVar 12)))) (sSeq (sAsg (.one 10) (eC (.str "maybe"))) (sSeq (sIf (e2 dEq (eVar 9) (eLst (lNil))) (sAsg (.one 10) (eC (.str "none"))) (sIf (eOr (e2 dNin (eC (.bool false)) (eVar 9)) (e2 dNin (eC (.bool true)) (eVar 9))) (sAsg (.one 10) (eIf (e2 dIx (eVar 9) (eC (.int 0))) (eC (.str "surely")) (eC (.str "never")))) (sNil))) (sSeq (sAsg (.one 2) (eLst (lCons (eCall sem_word (lCons (eVar 5) (lCons (eVar 7) (lCons (eVar 8) (lCons (eVar 11) (lCons (eVar 12) (lNil))))))) (lCons (eCallK sem_word (permL [4, 3, 2, 1, 0]) (lCons (eVar 12) (lCons (eVar 11) (lCons (eVar 8) (lCons (eVar 7) (lCons (eVar 5) (lNil))))))) (lNil))))) (sIf (e2 dReprNe (eVar 2) (eLst (lCons (eVar 10) (lCons (eVar 10) (lNil))))) (sRet (eC (.bool false))) (sNil)))))))) (sRet (eC (.bool true))))))))))))
theorem nd__law_right : ([Str.ofString "bag", Str.ofString "some", Str.ofString "told_here", Str.ofString "look", Str.ofString "turn", Str.ofString "seats", Str.ofString "one", Str.ofString "sight", Str.ofString "kind", Str.ofString "seen", Str.ofString "due", Str.ofString "a", Str.ofString "b", Str.ofString "own"] : List Str).Nodup := by decide +kernel
theorem ok__law_right {P : Program} {w : World} {K : PySem.W.Frag} {mg : Str → Option Value} {base : Heap} (C : Cx0 K mg) : FxE P w K mg base (Str.ofString "_law_right") 7 true 0 [Str.ofString "bag"] sem__law_right := by
  obtain ⟨fd, D⟩ := C.df 32
  exact z_def (N := [Str.ofString "bag", Str.ofString "some", Str.ofString "told_here", Str.ofString "look", Str.ofString "turn", Str.ofString "seats", Str.ofString "one", Str.ofString "sight", Str.ofString "kind", Str.ofString "seen", Str.ofString "due", Str.ofString "a", Str.ofString "b", Str.ofString "own"]) (k := 6) D (fsc_by (by decide +kernel)) (C.gd 32) (fun _ _ _ _ _ _ us h => match us, h with | [a0], _ => rfl) rfl rfl fun cdv A outer s0 H E G =>
     z_ss (z_asg (z_callB G (ok__law_drawn C) (z_cons (z_int) (z_cons (z_int) (z_nil)))) (z_gt G.calm (z_gs (z_g1 nd__law_right) (z_gs (z_g1 nd__law_right) (z_gs0)))))
      (z_ss (z_par G.calm nd__law_right (z_m0 (z_callB G (ok__law_sight C) (z_cons (z_var) (z_nil)))) (z_m0 (z_if (z_tcmp (op_eqA G.u) ad_eq (PE.tb (z_callB G (ok__law_take C) (z_cons (z_int) (z_nil)))) (PE.tb (z_int)) rfl) (z_call G (ok__law_kind C) (z_cons (z_var) (z_nil))) (z_non))))
      (z_ss (z_ifs (z_tcmp (op_eqA G.u) ad_eq (PE.tb (z_callB G (ok__law_take C) (z_cons (z_int) (z_nil)))) (PE.tb (z_int)) rfl) (z_s1 (z_asg (z_call G (ok__law_kind C) (z_cons (z_callB G (ok__law_other C) (z_cons (z_var) (z_nil))) (z_nil))) (z_g1 nd__law_right))) (z_sn))
      (z_ss (z_asg (z_call G (ok__law_fits C) (z_cons (z_var) (z_cons (z_var) (z_cons (z_var) (z_nil))))) (z_g1 nd__law_right))
      (z_ss (z_asg (z_lst (z_cons (z_call G (ok_count_fitting C) (z_cons (z_var) (z_cons (z_var) (z_cons (z_var) (z_nil))))) (z_cons (z_callK (ks := [Str.ofString "told_kind", Str.ofString "sight", Str.ofString "seats"]) G (ok_count_fitting C) (C.df 19 (d := dd 34 "count_fitting") rfl).choose_spec (C.gd 19) (z_kc (z_var) (z_kc (z_var) (z_kc (z_var) (z_k0)))) [2, 1, 0] (fun _ _ _ _ _ _ us h => match us, h with | [a0, a1, a2], _ => rfl) (by rfl) (har := fun ds h => match ds, h with | [a0, a1, a2], _ => rfl)) (z_nil)))) (z_g1 nd__law_right))
      (z_ss (z_ifs (z_reprNe G (C.gf 48) (PE.tb (z_var)) (PE.tb (z_bin op_mulA ad_mul (PE.tb (z_lst (z_cons (z_b1 call_len_seq ad_len (by decide +kernel) (C.gf 43) (PE.tb (z_var))) (z_nil)))) (PE.tb (z_int))))) (z_s1 (z_ret (z_bl))) (z_sn))
      (z_ss (z_asg (z_call G (ok__law_best_look C) (z_cons (z_var) (z_cons (z_var) (z_nil)))) (z_g1 nd__law_right))
      (z_ss (z_ifs (z_reprNe G (C.gf 48) (PE.tb (z_lst (z_cons (z_call G (ok_best_look C) (z_cons (z_var) (z_cons (z_var) (z_cons (z_var) (z_nil))))) (z_cons (z_callK (ks := [Str.ofString "told_kind", Str.ofString "sight", Str.ofString "seats"]) G (ok_best_look C) (C.df 21 (d := dd 36 "best_look") rfl).choose_spec (C.gd 21) (z_kc (z_var) (z_kc (z_var) (z_kc (z_var) (z_k0)))) [2, 1, 0] (fun _ _ _ _ _ _ us h => match us, h with | [a0, a1, a2], _ => rfl) (by rfl) (har := fun ds h => match ds, h with | [a0, a1, a2], _ => rfl)) (z_nil))))) (PE.tb (z_lst (z_cons (z_var) (z_cons (z_var) (z_nil)))))) (z_s1 (z_ret (z_bl))) (z_sn))
      (z_ss (z_for PassesOwn.never G.calm (z_r1 (C.gf 47) (PE.tb (z_int))) (z_g1 nd__law_right) (z_ss (z_asg (z_tup (z_cons (z_callB G (ok__law_take C) (z_cons (z_var) (z_nil))) (z_cons (z_callB G (ok__law_take C) (z_cons (z_var) (z_nil))) (z_nil)))) (z_gt G.calm (z_gs (z_g1 nd__law_right) (z_gs (z_g1 nd__law_right) (z_gs0)))))
      (z_ss (z_asgC (own := [(Str.ofString "own", 13)]) G.calm nd__law_right (z_iB (PE.tb (z_var))) (blkOk_by rfl) (fun s H C_ cl fp => z_g1 nd__law_right) (fun s H C_ cl fp => z_ts0) (fun s H C_ cl fp => z_cmp (op_eqA G.blk.u) ad_eq (PE.tb (z_ix (PE.tb (z_var)) (PE.tb (z_var)))) (PE.tb (z_var)) rfl))
      (z_ss (z_asg (z_str) (z_g1 nd__law_right))
      (z_ss (z_ifs (z_tcmp (op_eqA G.u) ad_eq (PE.tb (z_var)) (PE.tb (z_lst (z_nil))) rfl) (z_s1 (z_asg (z_str) (z_g1 nd__law_right))) (z_s1 (z_ifs (PW.zt (z_wor (z_tcmp (op_ninA G.u1) ad_nin (PE.tb (z_bl)) (PE.tb (z_var)) rfl) (z_wor1 (z_tcmp (op_ninA G.u1) ad_nin (PE.tb (z_bl)) (PE.tb (z_var)) rfl)))) (z_s1 (z_asg (z_if (z_val (z_ix (PE.tb (z_var)) (PE.tb (z_int)))) (z_str) (z_str)) (z_g1 nd__law_right))) (z_sn))))
      (z_ss (z_asg (z_lst (z_cons (z_call G (ok_word C) (z_cons (z_var) (z_cons (z_var) (z_cons (z_var) (z_cons (z_var) (z_cons (z_var) (z_nil))))))) (z_cons (z_callK (ks := [Str.ofString "to", Str.ofString "seat", Str.ofString "told_kind", Str.ofString "sight", Str.ofString "seats"]) G (ok_word C) (C.df 20 (d := dd 35 "word") rfl).choose_spec (C.gd 20) (z_kc (z_var) (z_kc (z_var) (z_kc (z_var) (z_kc (z_var) (z_kc (z_var) (z_k0)))))) [4, 3, 2, 1, 0] (fun _ _ _ _ _ _ us h => match us, h with | [a0, a1, a2, a3, a4], _ => rfl) (by rfl) (har := fun ds h => match ds, h with | [a0, a1, a2, a3, a4], _ => rfl)) (z_nil)))) (z_g1 nd__law_right))
      (z_s1 (z_ifs (z_reprNe G (C.gf 48) (PE.tb (z_var)) (PE.tb (z_lst (z_cons (z_var) (z_cons (z_var) (z_nil)))))) (z_s1 (z_ret (z_bl))) (z_sn)))))))))
      (z_s1 (z_ret (z_bl)))))))))))
end Tp

set_option Elab.async false
set_option linter.all false
set_option maxRecDepth 100000
set_option maxHeartbeats 4000000
namespace Tp
open PySem PySem.Spec L2
theorem nd_bag : ([Str.ofString "script", Str.ofString "lap", Str.ofString "stirred", Str.ofString "cell", Str.ofString "own"] : List Str).Nodup := by decide +kernel
theorem ok__law_bag {P : Program} {w : World} {K : PySem.W.Frag} {mg : Str → Option Value} {base : Heap} (C : Cx0 K mg) {fd : FuncData} (D : FunD K (dd 38 "_law_bag").name (dd 38 "_law_bag").qual (dd 38 "_law_bag").params (dd 38 "_law_bag").body (dd 38 "_law_bag").scope [] [] (He.ga K "_law_bag") fd) :
    FnG P w K mg base 1 (He.ga K "_law_bag") fd [Str.ofString "script", Str.ofString "lap"] (spBag K) := by
  refine fng (N := [Str.ofString "script", Str.ofString "lap", Str.ofString "stirred", Str.ofString "cell", Str.ofString "own"]) D (fsc_by (by decide +kernel)) (fun vs H Q E ⟨a, ns, lap, e, _⟩ => by rw [e]; rfl) fun cdv A outer s H vs Q E gs hr ⟨a, ns, lap, e, hS, h0, h1, q⟩ => ?_
  subst e
  refine ⟨_, pss_cons (ps_set (i := 2) nd_bag rfl (.inl rfl) (pe_op op_add pe_int (pe_op op_mul pe_int (pv 1))))
    (pss_cons (ps_for PassesOwn.never rfl (pi_list (pe_slice sl_list (pv 0) po_none (po_some pe_int))) (pg_name nd_bag rfl (.inl rfl) (i := 3))
      (pss_one (ps_set nd_bag rfl (.inl rfl) (pe_op op_mod (pe_toInt (C.gf 41) (pe_op op_add (pe_op op_add (pe_op op_mul (pv 2) pe_int) (pe_op op_mod (pe_toInt (C.gf 41) (pv 3)) pe_int)) pe_int)) pe_int) (i := 2))))
    (pss_cons (ps_set nd_bag rfl (.inl rfl) (i := 4) (pe_ifExp (pt_cmpR op_lt (pv 1) (pe_callB call_len_seq rfl (C.gf 43) (by decide +kernel) (pa_cons (pv 0) pa_nil)) rfl) (pe_toInt (C.gf 41) (pe_ix ix_seq (pv 0) (pv 1) (fun _ _ => rfl))) pe_int))
    (pss_cons (ps_set nd_bag rfl (.inl rfl) (i := 2) (pe_op op_mod (pe_toInt (C.gf 41) (pe_op op_add (pe_op op_add (pe_op op_mul (pv 2) pe_int) (pe_op op_mul (pe_op op_mod (pe_toInt (C.gf 41) (pv 4)) pe_int) pe_int)) pe_int)) pe_int))
    (pss_one (ps_ret (pe_lst (pa_cons (pe_ifExp (PW.pt (pw_or (pt_cmpR op_lt (pv 4) pe_int rfl) (pw_or1 (pt_cmpR op_ge (pv 4) (pe_op op_pow pe_int pe_int) rfl)))) (pe_callB call_abs rfl (C.gf 35) (by decide +kernel) (pa_cons (pv 4) pa_nil)) pe_int) (pa_cons (pv 2) (pa_cons pe_int pa_nil))))))))), ?_⟩
  refine (isI_add isI_c (isI_mul isI_c (isI_v rfl) (.inl ⟨by decide, by decide⟩))) _ ?_
  refine ⟨_, rfl, 16, rfl, a, ns.map V.int, rfl, hS, fun p np => ⟨p, rfl, ⟨_, SqL.of upd_same⟩, ?_⟩⟩
  have kpH : ∀ c o, H c = some o → upd H p (.lst (cutV (ns.map V.int) none (some 16))) c = some o := fun c o e => by rw [upd_ne (ne_of_none e np)]; exact e
  have hS1 : SqL K (upd H p (.lst (cutV (ns.map V.int) none (some 16)))) a (ns.map V.int) := sq_keep hS kpH
  generalize hH1 : upd H p (.lst (cutV (ns.map V.int) none (some 16))) = H1 at kpH hS1
  refine for_list (xs := cutV (ns.map V.int) none (some 16)) (fun i σ H' => H' = H1 ∧ ∃ (st : Int) (cv : Option V), σ = [some (.ref a), some (.int lap), some (.int st), cv, none]) ⟨rfl, _, _, rfl⟩ (fun i σ H' _ ⟨e, _⟩ => by rw [e, ← hH1]; exact SqL.of upd_same) ?_ ?_
  · rintro i x σ H' hx ⟨rfl, st, cv, rfl⟩
    obtain ⟨k, rfl⟩ := cut_int (List.mem_of_getElem? hx)
    refine (isI_mod (isI_int (isI_add (isI_add (isI_mul (isI_v rfl) isI_c (.inr ⟨by decide, by decide⟩)) (isI_mod (isI_int (isI_v rfl)) isI_c (by decide))) isI_c)) isI_c (by decide)) _ ?_
    exact ⟨rfl, _, _, rfl⟩
  · rintro σ H' ⟨rfl, st, cv, rfl⟩
    obtain ⟨own, ho⟩ := isI_if (σ := [some (.ref a), some (.int lap), some (.int st), cv, none]) (isT_lt (isI_v (k := 1) rfl) (isI_len (k := 0) rfl hS1)) (fun hc => by
      obtain ⟨n, hn⟩ := at_int h0 (of_decide_eq_true hc)
      exact ⟨_, isI_int (isI_ix (k := 0) (l := 1) rfl rfl hS1 hn)⟩) ⟨_, isI_c⟩
    refine ho _ ?_
    refine (isI_mod (isI_int (isI_add (isI_add (isI_mul (isI_v rfl) isI_c (.inr ⟨by decide, by decide⟩)) (isI_mul (isI_mod (isI_int (isI_v rfl)) isI_c (by decide)) isI_c (.inr ⟨by decide, by decide⟩))) isI_c)) isI_c (by decide)) _ ?_
    obtain ⟨big, hb⟩ := isI_if (σ := [some (.ref a), some (.int lap), some (.int ((st * 31 + own % 2147483629 * 17 + 3) % 2147483647)), cv, some (.int own)]) (isT_or (isT_lt (isI_v (k := 4) rfl) isI_c) (isT_ge (isI_v (k := 4) rfl) (isI_pow (i := 10) (j := 15) isI_c isI_c ⟨by decide, by decide, by decide⟩))) (fun _ => ⟨_, isI_abs (isI_v (k := 4) rfl)⟩) ⟨_, isI_c⟩
    refine hb _ ⟨_, rfl, small_n (n := 3) (by decide), fun p2 np2 => ?_⟩
    refine q _ p2 ⟨big, _, 0⟩ (fun c o e => by rw [upd_ne (ne_of_none (kpH c o e) np2)]; exact kpH c o e) ?_ upd_same
    cases qq : H p2 with
    | none => rfl
    | some o => rw [kpH _ _ qq] at np2; cases np2

theorem nd_law : ([Str.ofString "script", Str.ofString "lap", Str.ofString "bag", Str.ofString "turn"] : List Str).Nodup := by decide +kernel
theorem ok_law {P : Program} {w : World} {K : PySem.W.Frag} {mg : Str → Option Value} {base : Heap} (C : Cx0 K mg) (right : ∀ B, ∃ B', sem__law_right [] B = .ok (.bool true) B') {fd fb : FuncData} (D : FunD K (dd 49 "law").name (dd 49 "law").qual (dd 49 "law").params (dd 49 "law").body (dd 49 "law").scope [] [] (He.ga K "law") fd)
    (Db : FunD K (dd 38 "_law_bag").name (dd 38 "_law_bag").qual (dd 38 "_law_bag").params (dd 38 "_law_bag").body (dd 38 "_law_bag").scope [] [] (He.ga K "_law_bag") fb) :
    FnG P w K mg base 8 (He.ga K "law") fd [Str.ofString "script"] (spLaw K) := by
  refine fng (N := [Str.ofString "script", Str.ofString "lap", Str.ofString "bag", Str.ofString "turn"]) D (fsc_by (by decide +kernel)) (fun vs H Q E ⟨a, ns, e, _⟩ => by rw [e]; rfl) fun cdv A outer s H vs Q E gs hr ⟨a, ns, e, hS, hl, q⟩ => ?_
  subst e
  have G : Gd (cxG P w K mg base [Str.ofString "script", Str.ofString "lap", Str.ofString "bag", Str.ofString "turn"] (dd 49 "law").qual (dd 49 "law").scope (He.ga K "law") cdv A outer s H E) 7 := ⟨gs, hr, rfl⟩
  have hbd : ∀ us : List Value, us.length = [Str.ofString "script", Str.ofString "lap"].length → bindArgs fb ⟨us, []⟩ = pure ([Str.ofString "script", Str.ofString "lap"].zip us) := by
    obtain ⟨oc, od, dV, kV, doc, pm, an, cdv, ct, osl, rfl, lk, hcd, hD, hK⟩ := Db.ex
    rcases hD with ⟨_, rfl⟩ | ⟨e, _⟩
    · intro us h
      match us, h with
      | [a0, a1], _ => rfl
    · exact absurd rfl e
  refine ⟨_, pss_cons (ps_for PassesOwn.never rfl (pi_range1 rfl (C.gf 47) (pa_cons (pe_callB (call_max2 rfl) rfl (C.gf 45) (by decide +kernel) (pa_cons pe_int (pa_cons (pe_callB (call_min2 rfl) rfl (C.gf 46) (by decide +kernel) (pa_cons (pe_callB call_len_seq rfl (C.gf 43) (by decide +kernel) (pa_cons (pv 0) pa_nil)) (pa_cons pe_int pa_nil))) pa_nil))) pa_nil)) (pg_name (i := 1) nd_law rfl (.inl rfl))
      (pss_cons (ps_set (i := 2) nd_law rfl (.inr rfl) (pe_g (FnG.mono (ok__law_bag C Db) (by decide)) G.gs G.rm rfl (C.gd 22) Db.kp hbd (pa_cons (pv 0) (pa_cons (pv 1) pa_nil)) (by decide) rfl rfl))
      (pss_one (ps_if (pt_not (show ZT _ _ (e1 dAll (eComp [3] (.one 3) (iRng1 (eC (.int 8))) (eC (.bool true)) (eCallB 2 sem__law_right (lNil)))) from z_val (z_b1 (cr_all G.calm) ad_all (by decide +kernel) (C.gf 36) (PE.tb (z_comp (own := [(Str.ofString "turn", 3)]) G.calm nd_law (PI.ze (z_r1 (C.gf 47) (PE.tb (z_int)))) (blkOk_by rfl) (fun s H C_ cl fp => z_g1 nd_law) (fun s H C_ cl fp => z_ts0) (fun s H C_ cl fp => z_callB G.blk (ok__law_right C) (z_nil))))))) (pss_one (ps_ret pe_bl)) pss_nil))))
    (pss_one (ps_ret pe_bl)), ?_⟩
  obtain ⟨m, hm, m0, m1⟩ : ∃ m : Int, IsI (tCB (fun xs H Q => ∃ i j, xs = [.int i, .int j] ∧ Q (.int (if j > i then j else i)) H) (tCons (tC (.int 2)) (tCons (tCB (fun xs H Q => ∃ i j, xs = [.int i, .int j] ∧ Q (.int (if j < i then j else i)) H) (tCons (tCB (fun xs H Q => ∃ p ys, xs = [.ref p] ∧ (SqL K H p ys ∨ SqT K H p ys) ∧ Q (.int ys.length) H) (tCons (tVar 0) tNil)) (tCons (tC (.int 3)) tNil))) tNil))) (L2.start [Str.ofString "script", Str.ofString "lap", Str.ofString "bag", Str.ofString "turn"] [.ref a]) H m ∧ 0 ≤ m ∧ m ≤ 100 := by
    refine ⟨_, isI_max isI_c (isI_min (isI_len rfl hS) isI_c), ?_, ?_⟩ <;> (repeat' split) <;> omega
  refine seq_rng hm m0 m1 ?_
  refine for_range (lo := 0) (n := m.toNat) (fun i σ H' => SqL K H' a (ns.map V.int) ∧ ∃ lv bv tv, σ = [some (.ref a), lv, bv, tv]) ⟨hS, _, _, _, rfl⟩ ?_ (fun σ H' _ => q H')
  rintro j σ H' hj ⟨hS', lv, bv, tv, rfl⟩
  refine ⟨_, rfl, _, rfl, a, ns, _, rfl, hS', by omega, by omega, fun H2 p B kp np hp => ?_⟩
  obtain ⟨B', eB⟩ := rounds_true right 8 (by decide) B
  refine rounds_read hp eB fun H3 k3 => iteF ⟨?_, _, _, _, rfl⟩
  rcases hS' with h | h
  · rcases h with h | ⟨o, h⟩
    · exact .inl (.inl (k3 _ _ (ne_of_none h np) (kp _ _ h)))
    · exact .inl (.inr ⟨o, k3 _ _ (ne_of_none h np) (kp _ _ h)⟩)
  · exact .inr h

end Tp

set_option Elab.async false
set_option linter.all false
set_option maxRecDepth 100000
set_option maxHeartbeats 4000000
/-! The plain law of k60. -/
namespace Tp
open PySem
def tI (r : List Int) : PyData := .tuple (r.map PyData.int)
theorem comp_pure {own : List Nat} {t : Tg} {src : LF} {c e : EF} {ρ : Env} {B : Bag} {xs : List PyData} (p : PyData → Bool) (h : PyData → PyData) (hs : src ρ B = .ok xs B)
    (hh : ∀ x ∈ xs, ∃ ρ', t.bnd x (wipeE ρ own) = some ρ' ∧ c ρ' B = .ok (.bool (p x)) B ∧ (p x = true → e ρ' B = .ok (h x) B)) : eComp own t src c e ρ B = .ok (.list ((xs.filter p).map h)) B := by
  have gen : ∀ ys : List PyData, (∀ x ∈ ys, x ∈ xs) → compF (turn1 own t c e ρ) ys B = .ok ((ys.filter p).map h) B := by
    intro ys
    induction ys with
    | nil => intro _; rfl
    | cons y ys ih =>
      intro hm
      obtain ⟨ρ', h1, h2, h3⟩ := hh y (hm y (List.mem_cons_self ..))
      have ih' := ih fun x hx => hm x (List.mem_cons_of_mem _ hx)
      show ((turn1 own t c e ρ y B).bind fun ys1 B => (compF (turn1 own t c e ρ) ys B).bind fun zs B => .ok (ys1 ++ zs) B) = _
      have e1 : turn1 own t c e ρ y B = .ok (if p y then [h y] else []) B := by
        unfold turn1
        rw [h1]
        simp only [h2, R.bind]
        cases hp : p y with
        | true => simp only [h3 hp, if_true]
        | false => simp
      rw [e1]
      show ((compF (turn1 own t c e ρ) ys B).bind fun zs B => R.ok ((if p y then [h y] else []) ++ zs) B) = _
      rw [ih']
      show R.ok _ B = _
      cases hp : p y with
      | true => simp [hp]
      | false => simp [hp]
  unfold eComp
  rw [hs]
  show ((compF (turn1 own t c e ρ) xs B).bind fun ys B => R.ok (PyData.list ys) B) = _
  rw [gen xs fun x hx => hx]
  rfl
/-! ### what equality tells -/
theorem shp_list {l : List PyData} (h1 : PyData.canLayAll0 l = true) (h2 : PyData.depthAll l ≤ 60) : shp (.list l) = true ∧ shp (.tuple l) = true := by
  have hd : decide (PyData.depthAll l + 1 ≤ 64) = true := decide_eq_true (by omega)
  constructor
  · show (PyData.canLayAll0 l && decide (PyData.depthAll l + 1 ≤ 64)) = true
    rw [h1, hd]
    rfl
  · show (PyData.canLayAll0 l && decide (PyData.depthAll l + 1 ≤ 64)) = true
    rw [h1, hd]
    rfl
theorem lay_ints : ∀ ns : List Int, PyData.canLayAll0 (ns.map PyData.int) = true ∧ PyData.depthAll (ns.map PyData.int) = 0
  | [] => ⟨rfl, rfl⟩
  | n :: r => by
    obtain ⟨a, b⟩ := lay_ints r
    simp [PyData.canLayAll0, PyData.canLay0, PyData.depthAll, PyData.depth, a, b]
theorem shp_ints (ns : List Int) : shp (.list (ns.map PyData.int)) = true ∧ shp (.tuple (ns.map PyData.int)) = true := shp_list (lay_ints ns).1 (by rw [(lay_ints ns).2]; omega)
theorem ne_nil (ns : List Int) : dNe (.list (ns.map PyData.int)) (.list []) = some (.bool (!ns.isEmpty)) := by
  have h := (shp_ints ns).1
  have h0 := (shp_ints []).1
  unfold dNe dEqB
  cases ns with
  | nil => rfl
  | cons n r =>
    show Option.map _ (if (shp (.list ((n :: r).map PyData.int)) && shp (.list [])) = true then some (PyData.eqv (.list ((n :: r).map PyData.int)) (.list [])) else none) = _
    rw [show shp (.list []) = true from h0, h]
    simp [PyData.eqv, PyData.eqvAll]
theorem erase_map {α β : Type} (f : α → β) : ∀ (l : List α) (j : Nat), (l.map f).eraseIdx j = (l.eraseIdx j).map f
  | [], _ => rfl
  | _ :: _, 0 => rfl
  | a :: r, j + 1 => by simp [erase_map f r j]
theorem erase_perm {α : Type} : ∀ (l : List α) (j : Nat) (h : j < l.length), (l[j] :: l.eraseIdx j).Perm l
  | a :: r, 0, _ => .refl _
  | a :: r, j + 1, h => by
    have ih := erase_perm r j (by simpa using h)
    simp only [List.getElem_cons_succ, List.eraseIdx_cons_succ]
    exact (List.Perm.swap a _ _).trans (ih.cons a)
/-! ### digits, drawn turns -/
theorem take_ok (n : Int) (h : 0 < n) (h2 : n < 1073741824) (B : Bag) : ∃ d B', sem__law_take [.int n] B = .ok (.int d) B' ∧ 0 ≤ d ∧ d < n := by
  by_cases hx : 0 < B.x
  · refine ⟨B.x % n, { B with x := B.x / n }, ?_, Int.emod_nonneg _ (by omega), Int.emod_lt_of_pos _ h⟩
    simp [sem__law_take, fn, entry, sSeq, sIf, Tp.e2, eBg, eC, toS, R.bind, oR, dGt, Bag.get, sBgDiv, eVar, Bag.put, sRet, hx, h, h2]
  · have m1 : ∀ i : Int, mulOk i 16807 = true := fun i => by unfold mulOk; simp
    have m2 : ∀ i : Int, mulOk 4099 i = true := fun i => by unfold mulOk; simp
    refine ⟨((B.y * 16807 + 4099 * (B.z + 1) + 1) % 2147483647 / 911) % n, ⟨B.x, (B.y * 16807 + 4099 * (B.z + 1) + 1) % 2147483647, B.z + 1⟩, ?_, Int.emod_nonneg _ (by omega), Int.emod_lt_of_pos _ h⟩
    simp [sem__law_take, fn, entry, sSeq, sIf, Tp.e2, Tp.e1, eBg, eC, toS, R.bind, oR, dGt, dAdd, dMul, dMod, dDiv, dInt, Bag.get, sBgSet, eVar, Bag.put, sRet, sNil, hx, h, m1, m2]
def rI (n : Nat) : List Int := (List.range n).map fun (i : Nat) => (i : Int)
theorem rngI_eq (n : Nat) : rngI 0 n = (rI n).map PyData.int := by
  unfold rngI rI
  rw [List.map_map]
  have : ((n : Int) - 0).toNat = n := by omega
  rw [this]
  refine List.map_congr_left fun i _ => ?_
  simp
theorem other_loop : ∀ (k f : Nat) (ns ms : List Int) (s1 : Slot) (B : Bag), ns.length = k → k < f → k + ms.length ≤ 9 → ∃ r B',
    whlF (Tp.e2 dNe (eOwn 2) (eLst (lNil))) (sPopCat 3 2 (eCallB 0 sem__law_take (lCons (Tp.e1 dLen (eOwn 2)) (lNil)))) f [.bg, s1, .ow (ns.map PyData.int), .fz (tI ms)] B = .nx [.bg, s1, .ow [], .fz (tI (ms ++ r))] B' ∧ r.Perm ns := by
  intro k
  induction k with
  | zero =>
    intro f ns ms s1 B hk hf hl
    have : ns = [] := List.eq_nil_of_length_eq_zero hk
    subst this
    obtain ⟨f, rfl⟩ : ∃ g, f = g + 1 := ⟨f - 1, by omega⟩
    refine ⟨[], B, ?_, .refl _⟩
    simp [whlF, Tp.e2, eOwn, eLst, lNil, R.bind, toS, oR, show dNe (.list []) (.list []) = some (.bool false) from ne_nil []]
  | succ k ih =>
    intro f ns ms s1 B hk hf hl
    obtain ⟨f, rfl⟩ : ∃ g, f = g + 1 := ⟨f - 1, by omega⟩
    obtain ⟨d, B1, e1, d0, d1⟩ := take_ok (ns.length : Int) (by omega) (by omega) B
    have hj : d.toNat < ns.length := by omega
    have hidx : seqIndex? d (ns.map PyData.int).length = some d.toNat := by
      unfold seqIndex?
      rw [List.length_map]
      simp [d0, d1]
      try omega
    have hget : (ns.map PyData.int)[d.toNat]? = some (.int ns[d.toNat]) := by rw [List.getElem?_map, List.getElem?_eq_getElem hj]; rfl
    have her : (ns.map PyData.int).eraseIdx d.toNat = (ns.eraseIdx d.toNat).map PyData.int := erase_map _ _ _
    obtain ⟨r, B', e2, p⟩ := ih f (ns.eraseIdx d.toNat) (ms ++ [ns[d.toNat]]) s1 B1 (by rw [List.length_eraseIdx_of_lt hj]; omega) (by omega) (by simp; omega)
    refine ⟨ns[d.toNat] :: r, B', ?_, ?_⟩
    · have hne : dNe (.list (ns.map PyData.int)) (.list []) = some (.bool true) := by
        rw [ne_nil]
        cases ns with
        | nil => simp at hk
        | cons => rfl
      have hsm : smallI d = true := by unfold smallI; simp; omega
      have hms : ms.length < 1000 := by omega
      simp only [List.length_map] at hidx
      have step : sPopCat 3 2 (eCallB 0 sem__law_take (lCons (Tp.e1 dLen (eOwn 2)) (lNil))) [.bg, s1, .ow (ns.map PyData.int), .fz (tI ms)] B = .nx [.bg, s1, .ow ((ns.eraseIdx d.toNat).map PyData.int), .fz (tI (ms ++ [ns[d.toNat]]))] B1 := by
        simp [sPopCat, tI, eCallB, eCall, lCons, lNil, Tp.e1, eOwn, R.bind, oR, dLen, e1, toS, hidx, hsm, hms, hget, her, List.getElem?_map, hj]
      show toS (Tp.e2 dNe (eOwn 2) (eLst (lNil)) [.bg, s1, .ow (ns.map PyData.int), .fz (tI ms)] B) _ = _
      have tst : Tp.e2 dNe (eOwn 2) (eLst (lNil)) [.bg, s1, .ow (ns.map PyData.int), .fz (tI ms)] B = .ok (.bool true) B := by
        simp [Tp.e2, eOwn, eLst, lNil, R.bind, oR, hne]
      rw [tst]
      simp only [toS, step]
      rw [e2]
      simp
    · exact (p.cons _).trans (erase_perm ns d.toNat hj)
theorem other_ok (n : Nat) (h : n ≤ 9) (B : Bag) : ∃ r B', sem__law_other [.int n] B = .ok (tI r) B' ∧ r.Perm (rI n) := by
  obtain ⟨r, B', e, p⟩ := other_loop (rI n).length fuel (rI n) [] (.fz (.int n)) B rfl (by simp [rI, fuel]; omega) (by simp [rI]; omega)
  refine ⟨r, B', ?_, p⟩
  have hs : smallI (n : Int) = true := by unfold smallI; simp; omega
  simp [sem__law_other, fn, entry, sSeq, sPar, eRngL, iRng1, eVar, R.bind, hs, toS, eTup, lNil, slotM, rngI_eq, sWhl]
  rw [show (PyData.tuple [] : PyData) = tI [] from rfl, e]
  simp [sRet, toS, eVar]
end Tp

set_option Elab.async false
set_option linter.all false
set_option maxRecDepth 100000
set_option maxHeartbeats 4000000
/-! The plain law of k60: what is finite, by looking. -/
namespace Tp
open PySem
def pT (n : Nat) : List (List Int) := (permGo n 200 (permI n)).map fun ix => ix.map fun (i : Nat) => (i : Int)
theorem all2 : ∀ a ∈ rI 2, ∀ b ∈ rI 2, [a, b].Nodup → [a, b] ∈ pT 2 := by decide +kernel
theorem all3 : ∀ a ∈ rI 3, ∀ b ∈ rI 3, ∀ c ∈ rI 3, [a, b, c].Nodup → [a, b, c] ∈ pT 3 := by decide +kernel
theorem all4 : ∀ a ∈ rI 4, ∀ b ∈ rI 4, ∀ c ∈ rI 4, ∀ d ∈ rI 4, [a, b, c, d].Nodup → [a, b, c, d] ∈ pT 4 := by decide +kernel
theorem all5 : ∀ a ∈ rI 5, ∀ b ∈ rI 5, ∀ c ∈ rI 5, ∀ d ∈ rI 5, ∀ e ∈ rI 5, [a, b, c, d, e].Nodup → [a, b, c, d, e] ∈ pT 5 := by decide +kernel
theorem rI_nodup : ∀ n, n ≤ 5 → (rI n).Nodup := by decide +kernel
theorem mem_pT {n : Nat} (h1 : 2 ≤ n) (h2 : n ≤ 5) {r : List Int} (p : r.Perm (rI n)) : r ∈ pT n := by
  have nd : r.Nodup := p.nodup_iff.mpr (rI_nodup n h2)
  have hl : r.length = n := by rw [p.length_eq]; simp [rI]
  have hm : ∀ x ∈ r, x ∈ rI n := fun x hx => p.mem_iff.mp hx
  match n, h1, h2 with
  | 2, _, _ =>
    match r, hl with
    | [a, b], _ => exact all2 a (hm a (by simp)) b (hm b (by simp)) nd
  | 3, _, _ =>
    match r, hl with
    | [a, b, c], _ => exact all3 a (hm a (by simp)) b (hm b (by simp)) c (hm c (by simp)) nd
  | 4, _, _ =>
    match r, hl with
    | [a, b, c, d], _ => exact all4 a (hm a (by simp)) b (hm b (by simp)) c (hm c (by simp)) d (hm d (by simp)) nd
  | 5, _, _ =>
    match r, hl with
    | [a, b, c, d, e], _ => exact all5 a (hm a (by simp)) b (hm b (by simp)) c (hm c (by simp)) d (hm d (by simp)) e (hm e (by simp)) nd
/-- a turn's kind -/
def kd (r : List Int) : PyData := match sem_kind_by [tI r] ⟨0, 0, 0⟩ with
  | .ok d _ => d
  | _ => .none
def okK (n : Nat) (r : List Int) : Bool := shp (kd r) && plainD (kd r) && decide (r.length = n) && (match kd r with | .tuple _ => true | _ => false)
theorem tab_kind (n : Nat) (h1 : 2 ≤ n) (h2 : n ≤ 5) : ∀ B, (pT n).map (fun r => (sem_kind_by [tI r] B, sem__law_kind [tI r] B, sem_is_kind [.int n, kd r] B)) = (pT n).map (fun r => (R.ok (kd r) B, R.ok (kd r) B, R.ok (.bool true) B)) := by
  match n, h1, h2 with
  | 2, _, _ => intro B; kernel_rfl
  | 3, _, _ => intro B; kernel_rfl
  | 4, _, _ => intro B; kernel_rfl
  | 5, _, _ => intro B; kernel_rfl
theorem tab_ok (n : Nat) (h1 : 2 ≤ n) (h2 : n ≤ 5) : (pT n).all (okK n) = true := by
  match n, h1, h2 with
  | 2, _, _ => kernel_rfl
  | 3, _, _ => kernel_rfl
  | 4, _, _ => kernel_rfl
  | 5, _, _ => kernel_rfl
theorem tab_turns (n : Nat) (h1 : 2 ≤ n) (h2 : n ≤ 5) : ∀ B, (sem_turns_by [.int n] B, sem__law_turns [.int n] B) = (R.ok (.list ((pT n).map tI)) B, R.ok (.list ((pT n).map tI)) B) := by
  match n, h1, h2 with
  | 2, _, _ => intro B; kernel_rfl
  | 3, _, _ => intro B; kernel_rfl
  | 4, _, _ => intro B; kernel_rfl
  | 5, _, _ => intro B; kernel_rfl
theorem kind_at {n : Nat} (h1 : 2 ≤ n) (h2 : n ≤ 5) {r : List Int} (h : r ∈ pT n) (B : Bag) : sem_kind_by [tI r] B = .ok (kd r) B ∧ sem__law_kind [tI r] B = .ok (kd r) B ∧ sem_is_kind [.int n, kd r] B = .ok (.bool true) B := by
  have := List.map_inj_left.mp (tab_kind n h1 h2 B) r h
  simp only [Prod.mk.injEq] at this
  exact this
theorem ok_at {n : Nat} (h1 : 2 ≤ n) (h2 : n ≤ 5) {r : List Int} (h : r ∈ pT n) : okK n r = true := List.all_eq_true.mp (tab_ok n h1 h2) r h
end Tp

set_option Elab.async false
set_option linter.all false
set_option maxRecDepth 100000
set_option maxHeartbeats 4000000
/-! The plain law of k60: which turns fit. -/
namespace Tp
open PySem
def NI (o : PyData) : Prop := o = .none ∨ ∃ a, o = .int a
def pairT : PyData → Bool
  | .tuple [.none, _] => true
  | .tuple [.int a, .int b] => decide (a = b)
  | _ => false
def zfit (g : List PyData) (r : List Int) : Bool := (zipD g (r.map PyData.int)).all pairT
def fits (g : List PyData) (k : PyData) (r : List Int) : Bool := zfit g r && (isNoneD k || PyData.eqv (kd r) k)
theorem zip_mem : ∀ {g : List PyData} {r : List Int} {x : PyData}, x ∈ zipD g (r.map PyData.int) → ∃ o v, o ∈ g ∧ x = .tuple [o, .int v]
  | [], _, _, h => by simp [zipD] at h
  | _ :: _, [], _, h => by simp [zipD] at h
  | o :: g, v :: r, x, h => by
    simp only [List.map_cons, zipD, List.mem_cons] at h
    rcases h with rfl | h
    · exact ⟨o, v, by simp, rfl⟩
    · obtain ⟨o', v', h1, h2⟩ := zip_mem h
      exact ⟨o', v', List.mem_cons_of_mem _ h1, h2⟩
theorem bls_map {α : Type} (p : α → Bool) : ∀ xs : List α, blsOf (xs.map fun x => PyData.bool (p x)) = some (xs.map p)
  | [] => rfl
  | x :: xs => by simp [blsOf, bls_map p xs]
theorem filter_tt {α : Type} (xs : List α) : xs.filter (fun _ => true) = xs := by simp
theorem dEq_tup {x y : PyData} {l : List PyData} (hx : x = .tuple l) (h1 : shp x = true) (h2 : shp y = true) : dEq x y = some (.bool (PyData.eqv x y)) := by
  subst hx
  unfold dEq dEqB
  cases y <;> simp [h1, h2]
theorem kd_tup {n : Nat} {r : List Int} (h : okK n r = true) : shp (kd r) = true ∧ plainD (kd r) = true ∧ r.length = n ∧ ∃ l, kd r = .tuple l := by
  unfold okK at h
  simp only [Bool.and_eq_true, decide_eq_true_eq] at h
  obtain ⟨⟨⟨h1, h2⟩, h3⟩, h4⟩ := h
  refine ⟨h1, h2, h3, ?_⟩
  cases hk : kd r <;> rw [hk] at h4 <;> first | cases h4 | skip
  exact ⟨_, rfl⟩
/-- None, or a kind of these seats -/
def KOk (n : Nat) (k : PyData) : Prop := k = .none ∨ ∃ r ∈ pT n, k = kd r
theorem kind_eq {n : Nat} (h1 : 2 ≤ n) (h2 : n ≤ 5) {r : List Int} (h : r ∈ pT n) {k : PyData} (hk : KOk n k) (hn : isNoneD k = false) : dEq (kd r) k = some (.bool (PyData.eqv (kd r) k)) := by
  obtain ⟨a, _, _, l, e⟩ := kd_tup (ok_at h1 h2 h)
  rcases hk with rfl | ⟨r', hr', rfl⟩
  · cases hn
  · exact dEq_tup e a (kd_tup (ok_at h1 h2 hr')).1
theorem isN_ok (d : PyData) : dIsN d .none = some (.bool (isNoneD d)) := rfl
theorem notN_ok (d : PyData) : dNotN d .none = some (.bool (!isNoneD d)) := rfl
theorem does_fit_ok {n : Nat} (h1 : 2 ≤ n) (h2 : n ≤ 5) {r : List Int} (h : r ∈ pT n) {g : List PyData} (hg : ∀ o ∈ g, NI o) (hl : g.length ≤ 9) {k : PyData} (hk : KOk n k) (B : Bag) : sem_does_fit [tI r, .tuple g, k] B = .ok (.bool (fits g k r)) B := by
  have hlim : g.length ≤ lim := Nat.le_trans hl (by decide)
  have hcomp : eComp [3, 4] (.many [3, 4]) (iZipS (eVar 1) (eVar 0)) (eC (.bool true)) (eOr (Tp.e2 dIsN (eVar 3) (eC .none)) (Tp.e2 dEq (eVar 3) (eVar 4))) [.fz (tI r), .fz (.tuple g), .fz k, .no, .no] B = .ok (.list ((zipD g (r.map PyData.int)).map fun x => .bool (pairT x))) B := by
    rw [comp_pure (xs := zipD g (r.map PyData.int)) (fun _ => true) (fun x => .bool (pairT x)) (by simp [iZipS, eVar, R.bind, tI, hlim]) ?_, filter_tt]
    intro x hx
    obtain ⟨o, v, ho, rfl⟩ := zip_mem hx
    refine ⟨[.fz (tI r), .fz (.tuple g), .fz k, .fz o, .fz (.int v)], rfl, rfl, fun _ => ?_⟩
    rcases hg o ho with rfl | ⟨a, rfl⟩
    · simp [eOr, Tp.e2, eVar, eC, R.bind, oR, dIsN, isNoneD, pairT]
    · simp [eOr, Tp.e2, eVar, eC, R.bind, oR, dIsN, isNoneD, pairT, dEq, dEqB]
  have hall : Tp.e1 dAll (eComp [3, 4] (.many [3, 4]) (iZipS (eVar 1) (eVar 0)) (eC (.bool true)) (eOr (Tp.e2 dIsN (eVar 3) (eC .none)) (Tp.e2 dEq (eVar 3) (eVar 4)))) [.fz (tI r), .fz (.tuple g), .fz k, .no, .no] B = .ok (.bool (zfit g r)) B := by
    show (R.bind _ _) = _
    rw [hcomp]
    show oR ((blsOf _).map fun bs => PyData.bool (bs.all id)) B = _
    rw [bls_map]
    show R.ok _ B = _
    simp [zfit, List.all_map, Function.comp_def]
  have hkd := (kind_at h1 h2 h B).1
  unfold sem_does_fit fn
  simp only [List.length_cons, List.length_nil, if_true, entry, Bool.false_eq_true, if_false, List.nil_append, List.map_cons, List.map_nil, Nat.zero_add]
  show (match sSeq _ _ [.fz (tI r), .fz (.tuple g), .fz k, .no, .no] B with | .nx _ B => R.ok PyData.none B | .ret d B => .ok d B | .err c d B => .err c d B | .bad => .bad) = _
  simp only [sSeq, sIf, eNot, hall, R.bind, toS]
  cases hz : zfit g r with
  | false => simp [sRet, eC, toS, fits, hz]
  | true =>
    simp only [Bool.not_true, sNil, sRet, eOr, Tp.e2, eVar, eC, R.bind, oR]
    cases hn : isNoneD k with
    | true => simp [isN_ok, hn, toS, fits, hz]
    | false =>
      have hd := kind_eq h1 h2 h hk hn
      simp [isN_ok, hn, toS, fits, hz, eCall, lCons, lNil, R.bind, eVar, hkd, hd, oR]
end Tp

set_option Elab.async false
set_option linter.all false
set_option maxRecDepth 100000
set_option maxHeartbeats 4000000
/-! The plain law of k60: all turns that fit. -/
namespace Tp
open PySem
theorem comp_map {α : Type} {own : List Nat} {t : Tg} {src : LF} {c e : EF} {ρ : Env} {B : Bag} {xs : List α} (f : α → PyData) (p : α → Bool) (h : α → PyData) (hs : src ρ B = .ok (xs.map f) B)
    (hh : ∀ x ∈ xs, ∃ ρ', t.bnd (f x) (wipeE ρ own) = some ρ' ∧ c ρ' B = .ok (.bool (p x)) B ∧ (p x = true → e ρ' B = .ok (h x) B)) : eComp own t src c e ρ B = .ok (.list ((xs.filter p).map h)) B := by
  have gen : ∀ ys : List α, (∀ x ∈ ys, x ∈ xs) → compF (turn1 own t c e ρ) (ys.map f) B = .ok ((ys.filter p).map h) B := by
    intro ys
    induction ys with
    | nil => intro _; rfl
    | cons y ys ih =>
      intro hm
      obtain ⟨ρ', h1, h2, h3⟩ := hh y (hm y (List.mem_cons_self ..))
      have ih' := ih fun x hx => hm x (List.mem_cons_of_mem _ hx)
      show ((turn1 own t c e ρ (f y) B).bind fun ys1 B => (compF (turn1 own t c e ρ) (ys.map f) B).bind fun zs B => .ok (ys1 ++ zs) B) = _
      have e1 : turn1 own t c e ρ (f y) B = .ok (if p y then [h y] else []) B := by
        unfold turn1
        rw [h1]
        simp only [h2, R.bind]
        cases hp : p y with
        | true => simp only [h3 hp, if_true]
        | false => simp
      rw [e1]
      show ((compF (turn1 own t c e ρ) (ys.map f) B).bind fun zs B => R.ok ((if p y then [h y] else []) ++ zs) B) = _
      rw [ih']
      show R.ok _ B = _
      cases hp : p y with
      | true => simp [hp]
      | false => simp [hp]
  unfold eComp
  rw [hs]
  show ((compF (turn1 own t c e ρ) (xs.map f) B).bind fun ys B => R.ok (PyData.list ys) B) = _
  rw [gen xs fun x hx => hx]
  rfl
/-- the turns that fit -/
def FT (n : Nat) (g : List PyData) (k : PyData) : List (List Int) := (pT n).filter (fits g k)
theorem fitting_ok {n : Nat} (h1 : 2 ≤ n) (h2 : n ≤ 5) {g : List PyData} (hg : ∀ o ∈ g, NI o) (hl : g.length ≤ 9) {k : PyData} (hk : KOk n k) (B : Bag) : sem_fitting_by [.int n, .tuple g, k] B = .ok (.list ((FT n g k).map tI)) B := by
  have ht := congrArg Prod.fst (tab_turns n h1 h2 B)
  simp only at ht
  have hc : eComp [3] (.one 3) (iSeq (eCall sem_turns_by (lCons (eVar 0) (lNil)))) (eCall sem_does_fit (lCons (eVar 3) (lCons (eVar 1) (lCons (eVar 2) (lNil))))) (eVar 3) [.fz (.int n), .fz (.tuple g), .fz k, .no] B = .ok (.list ((FT n g k).map tI)) B := by
    refine comp_map tI (fits g k) tI (xs := pT n) ?_ ?_
    · simp [iSeq, eCall, lCons, lNil, eVar, R.bind, ht, seqOf]
    · intro r hr
      refine ⟨[.fz (.int n), .fz (.tuple g), .fz k, .fz (tI r)], rfl, ?_, fun _ => rfl⟩
      simp [eCall, lCons, lNil, eVar, R.bind, does_fit_ok h1 h2 hr hg hl hk]
  simp [sem_fitting_by, fn, entry, sRet, hc, toS]
theorem forF_cons {t : Tg} {body : SF} {x : PyData} {xs : List PyData} {ρ ρ' ρ'' : Env} {B B' : Bag} (h1 : t.bnd x ρ = some ρ') (h2 : body ρ' B = .nx ρ'' B') : forF t body (x :: xs) ρ B = forF t body xs ρ'' B' := by simp [forF, h1, h2]
theorem fits_loop {n : Nat} (h1 : 2 ≤ n) (h2 : n ≤ 5) {g : List PyData} (hg : ∀ o ∈ g, NI o) (hl : g.length ≤ 9) {k : PyData} (hk : KOk n k) (B : Bag) : ∀ (rs acc : List (List Int)) (s4 : Slot), (∀ r ∈ rs, r ∈ pT n) → acc.length + rs.length ≤ 1000 → ∃ s4',
    forF (.one 4) (sIf (eNot (Tp.e1 dAny (eComp [5, 6] (.many [5, 6]) (iZipS (eVar 1) (eVar 4)) (eC (.bool true)) (eAnd (Tp.e2 dNotN (eVar 5) (eC .none)) (Tp.e2 dNe (eVar 5) (eVar 6)))))) (sAsg (.one 3) (Tp.e2 dAdd (eVar 3) (eIf (eOr (Tp.e2 dIsN (eVar 2) (eC .none)) (Tp.e2 dEq (eCall sem__law_kind (lCons (eVar 4) (lNil))) (eVar 2))) (eLst (lCons (eVar 4) (lNil))) (eLst (lNil))))) (sNil)) (rs.map tI) [.fz (.int n), .fz (.tuple g), .fz k, .fz (.list (acc.map tI)), s4, .no, .no] B
      = .nx [.fz (.int n), .fz (.tuple g), .fz k, .fz (.list ((acc ++ rs.filter (fits g k)).map tI)), s4', .no, .no] B
  | [], acc, s4, _, _ => ⟨s4, by simp [forF]⟩
  | r :: rs, acc, s4, hm, hlen => by
    have hr := hm r (List.mem_cons_self ..)
    have hlim : g.length ≤ lim := Nat.le_trans hl (by decide)
    have hcomp : eComp [5, 6] (.many [5, 6]) (iZipS (eVar 1) (eVar 4)) (eC (.bool true)) (eAnd (Tp.e2 dNotN (eVar 5) (eC .none)) (Tp.e2 dNe (eVar 5) (eVar 6))) [.fz (.int n), .fz (.tuple g), .fz k, .fz (.list (acc.map tI)), .fz (tI r), .no, .no] B = .ok (.list ((zipD g (r.map PyData.int)).map fun x => .bool (!pairT x))) B := by
      rw [comp_pure (xs := zipD g (r.map PyData.int)) (fun _ => true) (fun x => .bool (!pairT x)) (by simp [iZipS, eVar, R.bind, tI, hlim]) ?_, filter_tt]
      intro x hx
      obtain ⟨o, v, ho, rfl⟩ := zip_mem hx
      refine ⟨[.fz (.int n), .fz (.tuple g), .fz k, .fz (.list (acc.map tI)), .fz (tI r), .fz o, .fz (.int v)], rfl, rfl, fun _ => ?_⟩
      rcases hg o ho with rfl | ⟨a, rfl⟩
      · simp [eAnd, Tp.e2, eVar, eC, R.bind, oR, dNotN, isNoneD, pairT]
      · simp [eAnd, Tp.e2, eVar, eC, R.bind, oR, dNotN, isNoneD, pairT, dNe, dEqB]
    have hany : Tp.e1 dAny (eComp [5, 6] (.many [5, 6]) (iZipS (eVar 1) (eVar 4)) (eC (.bool true)) (eAnd (Tp.e2 dNotN (eVar 5) (eC .none)) (Tp.e2 dNe (eVar 5) (eVar 6)))) [.fz (.int n), .fz (.tuple g), .fz k, .fz (.list (acc.map tI)), .fz (tI r), .no, .no] B = .ok (.bool (!zfit g r)) B := by
      show (R.bind _ _) = _
      rw [hcomp]
      show oR ((blsOf _).map fun bs => PyData.bool (bs.any id)) B = _
      rw [bls_map]
      show R.ok _ B = _
      simp [zfit, List.any_map, Function.comp_def, List.all_eq_not_any_not]
    have hkd := (kind_at h1 h2 hr B).2.1
    have hadd : ∀ l : List (List Int), l.length ≤ 1 → dAdd (.list (acc.map tI)) (.list (l.map tI)) = some (.list ((acc ++ l).map tI)) := by
      intro l hl1
      have : acc.length + l.length ≤ lim := by unfold lim; simp at hlen; omega
      simp [dAdd, this]
    have step : ∃ acc', acc'.length ≤ acc.length + 1 ∧ acc' ++ rs.filter (fits g k) = acc ++ (r :: rs).filter (fits g k) ∧ (sIf (eNot (Tp.e1 dAny (eComp [5, 6] (.many [5, 6]) (iZipS (eVar 1) (eVar 4)) (eC (.bool true)) (eAnd (Tp.e2 dNotN (eVar 5) (eC .none)) (Tp.e2 dNe (eVar 5) (eVar 6)))))) (sAsg (.one 3) (Tp.e2 dAdd (eVar 3) (eIf (eOr (Tp.e2 dIsN (eVar 2) (eC .none)) (Tp.e2 dEq (eCall sem__law_kind (lCons (eVar 4) (lNil))) (eVar 2))) (eLst (lCons (eVar 4) (lNil))) (eLst (lNil))))) (sNil)) [.fz (.int n), .fz (.tuple g), .fz k, .fz (.list (acc.map tI)), .fz (tI r), .no, .no] B = .nx [.fz (.int n), .fz (.tuple g), .fz k, .fz (.list (acc'.map tI)), .fz (tI r), .no, .no] B := by
      simp only [sIf, eNot, hany, R.bind, toS, Bool.not_not]
      cases hz : zfit g r with
      | false => exact ⟨acc, by omega, by simp [fits, hz], by simp [sNil, hz]⟩
      | true =>
        have a1 := hadd [r] (by simp)
        have a0 := hadd [] (by simp)
        cases hn : isNoneD k with
        | true => exact ⟨acc ++ [r], by simp, by simp [fits, hz, hn], by simp [sAsg, Tp.e2, eVar, eIf, eOr, eC, R.bind, oR, isN_ok, hn, toS, eLst, lCons, lNil, hz] at a1 ⊢; simp [a1, Tg.bnd]⟩
        | false =>
          have hd := kind_eq h1 h2 hr hk hn
          cases he : PyData.eqv (kd r) k with
          | true => exact ⟨acc ++ [r], by simp, by simp [fits, hz, hn, he], by simp [sAsg, Tp.e2, eVar, eIf, eOr, eC, R.bind, oR, isN_ok, hn, toS, eLst, lCons, lNil, hz, eCall, hkd, hd, he] at a1 ⊢; simp [a1, Tg.bnd]⟩
          | false => exact ⟨acc, by omega, by simp [fits, hz, hn, he], by simp [sAsg, Tp.e2, eVar, eIf, eOr, eC, R.bind, oR, isN_ok, hn, toS, eLst, lCons, lNil, hz, eCall, hkd, hd, he] at a0 ⊢; simp [a0, Tg.bnd]⟩
    obtain ⟨acc', c1, c2, c3⟩ := step
    obtain ⟨s4', e⟩ := fits_loop h1 h2 hg hl hk B rs acc' (.fz (tI r)) (fun x hx => hm x (List.mem_cons_of_mem _ hx)) (by simp at hlen; omega)
    refine ⟨s4', ?_⟩
    rw [List.map_cons, forF_cons rfl c3, e, c2]
theorem len_pT : ∀ n, n ≤ 5 → (pT n).length ≤ 1000 := by decide +kernel
theorem law_fits_ok {n : Nat} (h1 : 2 ≤ n) (h2 : n ≤ 5) {g : List PyData} (hg : ∀ o ∈ g, NI o) (hl : g.length ≤ 9) {k : PyData} (hk : KOk n k) (B : Bag) : sem__law_fits [.int n, .tuple g, k] B = .ok (.list ((FT n g k).map tI)) B := by
  have ht := congrArg Prod.snd (tab_turns n h1 h2 B)
  simp only at ht
  obtain ⟨s4, e⟩ := fits_loop h1 h2 hg hl hk B (pT n) [] .no (fun _ h => h) (by simpa using len_pT n h2)
  simp only [List.map_nil, List.nil_append] at e
  simp [sem__law_fits, fn, entry, sSeq, sAsg, eLst, lNil, R.bind, toS, Tg.bnd, sFor, iSeq, eCall, lCons, eVar, ht, seqOf, e, sRet, FT]
end Tp

set_option Elab.async false
set_option linter.all false
set_option maxRecDepth 100000
set_option maxHeartbeats 4000000
/-! The plain law of k60: sights and checks. -/
namespace Tp
open PySem
theorem eNot_ok {f : EF} {ρ : Env} {B B' : Bag} {b : Bool} (h : f ρ B = .ok (.bool b) B') : eNot f ρ B = .ok (.bool (!b)) B' := by simp [eNot, h, R.bind]
theorem eOr_f {f g : EF} {ρ : Env} {B B' : Bag} (h : f ρ B = .ok (.bool false) B') : eOr f g ρ B = g ρ B' := by simp [eOr, h, R.bind]
theorem eOr_t {f g : EF} {ρ : Env} {B B' : Bag} (h : f ρ B = .ok (.bool true) B') : eOr f g ρ B = .ok (.bool true) B' := by simp [eOr, h, R.bind]
theorem eAnd_t {f g : EF} {ρ : Env} {B B' : Bag} (h : f ρ B = .ok (.bool true) B') : eAnd f g ρ B = g ρ B' := by simp [eAnd, h, R.bind]
theorem eAnd_f {f g : EF} {ρ : Env} {B B' : Bag} (h : f ρ B = .ok (.bool false) B') : eAnd f g ρ B = .ok (.bool false) B' := by simp [eAnd, h, R.bind]
theorem eIf_t {t f g : EF} {ρ : Env} {B B' : Bag} (h : t ρ B = .ok (.bool true) B') : eIf t f g ρ B = f ρ B' := by simp [eIf, h, R.bind]
theorem eIf_f {t f g : EF} {ρ : Env} {B B' : Bag} (h : t ρ B = .ok (.bool false) B') : eIf t f g ρ B = g ρ B' := by simp [eIf, h, R.bind]
theorem e1_ok {op : PyData → Option PyData} {f : EF} {ρ : Env} {B B' : Bag} {d v : PyData} (h : f ρ B = .ok d B') (e : op d = some v) : Tp.e1 op f ρ B = .ok v B' := by simp [Tp.e1, h, R.bind, e, oR]
theorem e2_ok {op : PyData → PyData → Option PyData} {f g : EF} {ρ : Env} {B B1 B' : Bag} {x y v : PyData} (h : f ρ B = .ok x B1) (h2 : g ρ B1 = .ok y B') (e : op x y = some v) : Tp.e2 op f g ρ B = .ok v B' := by simp [Tp.e2, h, h2, R.bind, e, oR]
theorem call_ok {s : FSem} {l : LF} {ρ : Env} {B B' : Bag} {ds : List PyData} (h : l ρ B = .ok ds B') : eCall s l ρ B = s ds B' := by simp [eCall, h, R.bind]
theorem sSeq_nx {a b : SF} {ρ ρ' : Env} {B B' : Bag} (h : a ρ B = .nx ρ' B') : sSeq a b ρ B = b ρ' B' := by simp [sSeq, h]
theorem sSeq_ret {a b : SF} {ρ : Env} {B B' : Bag} {d : PyData} (h : a ρ B = .ret d B') : sSeq a b ρ B = .ret d B' := by simp [sSeq, h]
theorem sIf_t {t : EF} {a b : SF} {ρ : Env} {B B' : Bag} (h : t ρ B = .ok (.bool true) B') : sIf t a b ρ B = a ρ B' := by simp [sIf, h, toS]
theorem sIf_f {t : EF} {a b : SF} {ρ : Env} {B B' : Bag} (h : t ρ B = .ok (.bool false) B') : sIf t a b ρ B = b ρ B' := by simp [sIf, h, toS]
theorem sIfN_f {t : EF} {a : SF} {ρ : Env} {B B' : Bag} (h : t ρ B = .ok (.bool false) B') : sIf t a sNil ρ B = .nx ρ B' := by simp [sIf, h, toS, sNil]
theorem sRet_ok {e : EF} {ρ : Env} {B B' : Bag} {d : PyData} (h : e ρ B = .ok d B') : sRet e ρ B = .ret d B' := by simp [sRet, h, toS]
theorem sExp_ok {e : EF} {ρ : Env} {B B' : Bag} {d : PyData} (h : e ρ B = .ok d B') : sExp e ρ B = .nx ρ B' := by simp [sExp, h, toS]
theorem sAsg_ok {t : Tg} {e : EF} {ρ ρ' : Env} {B B' : Bag} {d : PyData} (h : e ρ B = .ok d B') (h2 : t.bnd d ρ = some ρ') : sAsg t e ρ B = .nx ρ' B' := by simp [sAsg, h, h2, toS]
theorem sFor_ok {t : Tg} {src : LF} {body : SF} {ρ : Env} {B B' : Bag} {xs : List PyData} (h : src ρ B = .ok xs B') : sFor t src body ρ B = forF t body xs ρ B' := by simp [sFor, h]
theorem fn_ret {bag : Bool} {n ar : Nat} {body : SF} {ds : List PyData} {B B' : Bag} {d : PyData} (h : ds.length = ar) (e : body (entry bag n ds) B = .ret d B') : fn bag n ar body ds B = .ok d B' := by simp [fn, h, e]
theorem fn_nx {bag : Bool} {n ar : Nat} {body : SF} {ds : List PyData} {B B' : Bag} {ρ' : Env} (h : ds.length = ar) (e : body (entry bag n ds) B = .nx ρ' B') : fn bag n ar body ds B = .ok .none B' := by simp [fn, h, e]
/-- some of a turn's goals are told -/
def Mask : List Int → List PyData → Prop
  | [], [] => True
  | v :: r, o :: g => (o = .none ∨ o = .int v) ∧ Mask r g
  | _, _ => False
theorem mask_len : ∀ {r : List Int} {g : List PyData}, Mask r g → g.length = r.length
  | [], [], _ => rfl
  | _ :: _, _ :: _, h => by simp [mask_len h.2]
  | [], _ :: _, h => h.elim
  | _ :: _, [], h => h.elim
theorem mask_mem : ∀ {r : List Int} {g : List PyData}, Mask r g → ∀ o ∈ g, o = .none ∨ ∃ a ∈ r, o = .int a
  | [], [], _, o, h => by cases h
  | v :: r, o' :: g, h, o, ho => by
    rcases List.mem_cons.mp ho with rfl | ho
    · rcases h.1 with h | h
      · exact .inl h
      · exact .inr ⟨v, by simp, h⟩
    · rcases mask_mem h.2 o ho with h | ⟨a, ha, h⟩
      · exact .inl h
      · exact .inr ⟨a, List.mem_cons_of_mem _ ha, h⟩
  | [], _ :: _, h, _, _ => h.elim
  | _ :: _, [], h, _, _ => h.elim
theorem mask_NI {r : List Int} {g : List PyData} (h : Mask r g) : ∀ o ∈ g, NI o := fun o ho => by
  rcases mask_mem h o ho with h | ⟨a, _, h⟩
  · exact .inl h
  · exact .inr ⟨a, h⟩
theorem mask_told : ∀ {r : List Int} {g : List PyData}, Mask r g → ∃ s : List Int, g.filter (fun o => !isNoneD o) = s.map PyData.int ∧ s.Sublist r
  | [], [], _ => ⟨[], rfl, .slnil⟩
  | v :: r, o :: g, h => by
    obtain ⟨s, e, p⟩ := mask_told h.2
    rcases h.1 with rfl | rfl
    · exact ⟨s, by simp [List.filter_cons, show isNoneD PyData.none = true from rfl, e], p.cons v⟩
    · exact ⟨v :: s, by simp [List.filter_cons, show isNoneD (PyData.int v) = false from rfl, e], p.cons_cons v⟩
  | [], _ :: _, h => h.elim
  | _ :: _, [], h => h.elim
theorem sight_loop (ρ : Env) (hρ : ∀ v : Int, Tg.bnd (.one 2) (.int v) (wipeE ρ [2]) = some [.bg, .fz (ρ1), .fz (.int v)]) : ∀ (r : List Int) (B : Bag), ∃ g B', compF (turn1 [2] (.one 2) (eC (.bool true)) (eIf (Tp.e2 dEq (eCallB 0 sem__law_take (lCons (eC (.int 3)) (lNil))) (eC (.int 0))) (eVar 2) (eC .none)) ρ) (r.map PyData.int) B = .ok g B' ∧ Mask r g
  | [], B => ⟨[], B, rfl, trivial⟩
  | v :: r, B => by
    obtain ⟨d, B1, e1, _, _⟩ := take_ok 3 (by decide) (by decide) B
    obtain ⟨g, B2, e2, m⟩ := sight_loop ρ hρ r B1
    by_cases hd : d = 0
    · refine ⟨.int v :: g, B2, ?_, .inr rfl, m⟩
      simp [compF, turn1, hρ, eC, R.bind, eIf, Tp.e2, eCallB, eCall, lCons, lNil, e1, oR, dEq, dEqB, hd, eVar, e2]
    · refine ⟨.none :: g, B2, ?_, .inl rfl, m⟩
      simp [compF, turn1, hρ, eC, R.bind, eIf, Tp.e2, eCallB, eCall, lCons, lNil, e1, oR, dEq, dEqB, hd, eVar, e2]
theorem sight_ok (r : List Int) (B : Bag) : ∃ g B', sem__law_sight [tI r] B = .ok (.tuple g) B' ∧ Mask r g := by
  obtain ⟨g, B', e, m⟩ := sight_loop (ρ1 := tI r) [.bg, .fz (tI r), .no] (fun _ => rfl) r B
  refine ⟨g, B', ?_, m⟩
  simp [sem__law_sight, fn, entry, sRet, Tp.e1, eComp, iSeq, eVar, R.bind, tI, seqOf, toS, oR] at e ⊢
  rw [e]
  simp [dTuple, oR, toS]
theorem between_ok (a l m : Int) (B : Bag) : sem_is_between [.int a, .int l, .int m] B = .ok (.bool (decide (l ≤ a) && decide (a ≤ m))) B := by
  by_cases h : l ≤ a <;> simp [sem_is_between, sem_is_whole, fn, entry, sRet, eAnd, Tp.e1, Tp.e2, eVar, eChn, eCall, lCons, lNil, dIsi, isiB, eNot, dLe, R.bind, oR, toS, h]
theorem seat_ok {n : Nat} {a : Int} (h0 : 0 ≤ a) (h1 : a < n) (B : Bag) : sem_is_seat [.int n, .int a] B = .ok (.bool true) B := by
  have : a ≤ (n : Int) - 1 := by omega
  simp [sem_is_seat, fn, entry, sRet, Tp.e2, eVar, eC, eCall, lCons, lNil, R.bind, oR, toS, dSub, between_ok, h0, this]
theorem check_seat_ok {n : Nat} {a : Int} (h0 : 0 ≤ a) (h1 : a < n) (B : Bag) : sem_check_seat [.int n, .int a] B = .ok .none B := by
  simp [sem_check_seat, fn, entry, sIf, eNot, eVar, eCall, lCons, lNil, R.bind, toS, seat_ok h0 h1, sNil]
theorem check_seats_ok {n : Nat} (h1 : 2 ≤ n) (h2 : n ≤ 5) (B : Bag) : sem_check_seats [.int n] B = .ok .none B := by
  have a : (2 : Int) ≤ n := by omega
  have b : (n : Int) ≤ 5 := by omega
  simp [sem_check_seats, sem_is_seats, fn, entry, sIf, eNot, eVar, eC, eCall, lCons, lNil, R.bind, toS, between_ok, a, b, sRet, sNil]
theorem dd_same : ∀ {s : List Int}, s.Nodup → ddI s = s
  | [], _ => rfl
  | a :: s, h => by
    have h := List.nodup_cons.mp h
    have : s.contains a = false := by simp [h.1]
    unfold ddI; rw [this, dd_same h.2]; rfl
theorem ints_map : ∀ s : List Int, intsOf (s.map PyData.int) = some s
  | [] => rfl
  | a :: s => by simp [intsOf, ints_map s]
theorem pT_perm {n : Nat} (h1 : 2 ≤ n) (h2 : n ≤ 5) {r : List Int} (h : r ∈ pT n) : r.length = n := (kd_tup (ok_at h1 h2 h)).2.2.1
theorem is_sight_ok {n : Nat} (h1 : 2 ≤ n) (h2 : n ≤ 5) {r : List Int} (p : r.Perm (rI n)) {g : List PyData} (m : Mask r g) (B : Bag) : sem_is_sight [.int n, .tuple g] B = .ok (.bool true) B := by
  have hl : g.length = n := by rw [mask_len m, p.length_eq]; simp [rI]
  have hr : ∀ a ∈ r, 0 ≤ a ∧ a < n := fun a ha => by
    have := p.mem_iff.mp ha
    simp [rI] at this
    omega
  have nd : r.Nodup := p.nodup_iff.mpr (rI_nodup n h2)
  obtain ⟨s, es, sub⟩ := mask_told m
  have snd : s.Nodup := sub.nodup nd
  have sl : s.length < 1000 := by have := sub.length_le; rw [p.length_eq] at this; simp [rI] at this; omega
  have hsm : smallI (n : Int) = true := by unfold smallI; simp; omega
  have hc1 : eComp [3] (.one 3) (iSeq (eVar 1)) (eC (.bool true)) (eOr (Tp.e2 dIsN (eVar 3) (eC .none)) (eCall sem_is_seat (lCons (eVar 0) (lCons (eVar 3) (lNil))))) [.fz (.int n), .fz (.tuple g), .no, .no] B = .ok (.list (g.map fun _ => .bool true)) B := by
    rw [comp_pure (xs := g) (fun _ => true) (fun _ => .bool true) (by simp [iSeq, eVar, R.bind, seqOf]) ?_, filter_tt]
    intro o ho
    refine ⟨[.fz (.int n), .fz (.tuple g), .no, .fz o], rfl, rfl, fun _ => ?_⟩
    rcases mask_mem m o ho with rfl | ⟨a, ha, rfl⟩
    · simp [eOr, Tp.e2, eVar, eC, R.bind, oR, dIsN, isNoneD]
    · have := hr a ha
      simp [eOr, Tp.e2, eVar, eC, R.bind, oR, dIsN, isNoneD, eCall, lCons, lNil, seat_ok this.1 this.2]
  have hc2 : eComp [3] (.one 3) (iSeq (eVar 1)) (Tp.e2 dNotN (eVar 3) (eC .none)) (eVar 3) [.fz (.int n), .fz (.tuple g), .no, .no] B = .ok (.list (s.map .int)) B := by
    rw [comp_pure (xs := g) (fun o => !isNoneD o) id (by simp [iSeq, eVar, R.bind, seqOf]) ?_, List.map_id, es]
    intro o ho
    exact ⟨[.fz (.int n), .fz (.tuple g), .no, .fz o], rfl, by simp [Tp.e2, eVar, eC, R.bind, oR, notN_ok], fun _ => rfl⟩
  have hb := bls_map (fun _ : PyData => true) g
  have htup : sem_is_tuple_of [.tuple g, .int n] B = .ok (.bool true) B := by
    simp [sem_is_tuple_of, fn, entry, sRet, eAnd, Tp.e1, Tp.e2, eVar, dIsi, isiB, R.bind, oR, toS, dLen, dEq, dEqB, hl]
  have q : dAll (.list (g.map fun _ => PyData.bool true)) = some (.bool true) := by
    show (blsOf _).map _ = _
    rw [hb]
    simp
  have q2 : dLenSet (.list (s.map PyData.int)) = some (.int s.length) := by
    simp [dLenSet, seqOf, ints_map, sl, dd_same snd]
  have q3 : dLen (.list (s.map PyData.int)) = some (.int s.length) := by simp [dLen]
  refine fn_ret rfl ?_
  show sSeq _ _ [.fz (.int n), .fz (.tuple g), .no, .no] B = _
  rw [sSeq_nx (sIfN_f ((eOr_f (eNot_ok ((call_ok rfl).trans htup))).trans (eNot_ok (e1_ok hc1 q))))]
  show sSeq _ _ [.fz (.int n), .fz (.tuple g), .no, .no] B = _
  rw [sSeq_nx (sAsg_ok hc2 rfl)]
  refine sRet_ok ?_
  rw [e2_ok (e1_ok rfl q2) (e1_ok rfl q3) (show dEq _ _ = some (.bool true) by simp [dEq, dEqB])]
theorem told_ok {n : Nat} (h1 : 2 ≤ n) (h2 : n ≤ 5) {k : PyData} (hk : KOk n k) (B : Bag) : sem_is_told_kind [.int n, k] B = .ok (.bool true) B := by
  refine fn_ret rfl (sRet_ok ?_)
  show eOr _ _ [.fz (.int n), .fz k] B = _
  rcases hk with rfl | ⟨r, hr, rfl⟩
  · exact eOr_t (e2_ok rfl rfl rfl)
  · obtain ⟨_, _, _, l, e⟩ := kd_tup (ok_at h1 h2 hr)
    rw [eOr_f (e2_ok rfl rfl (by rw [isN_ok, e]; rfl))]
    exact (call_ok rfl).trans (kind_at h1 h2 hr B).2.2
theorem check_ok {n : Nat} (h1 : 2 ≤ n) (h2 : n ≤ 5) {r : List Int} (p : r.Perm (rI n)) {g : List PyData} (m : Mask r g) {k : PyData} (hk : KOk n k) (B : Bag) : sem_check_seen [.int n, .tuple g, k] B = .ok .none B := by
  refine fn_nx rfl (ρ' := [.fz (.int n), .fz (.tuple g), .fz k]) ?_
  show sSeq _ _ [.fz (.int n), .fz (.tuple g), .fz k] B = _
  rw [sSeq_nx (sExp_ok ((call_ok rfl).trans (check_seats_ok h1 h2 B)))]
  rw [sSeq_nx (sIfN_f (eNot_ok ((call_ok rfl).trans (is_sight_ok h1 h2 p m B))))]
  exact sIfN_f (eNot_ok ((call_ok rfl).trans (told_ok h1 h2 hk B)))
end Tp

set_option Elab.async false
set_option linter.all false
set_option maxRecDepth 100000
set_option maxHeartbeats 4000000
/-! The plain law of k60: words. -/
namespace Tp
open PySem
theorem ix_ok {r : List Int} {a : Int} (h0 : 0 ≤ a) (h1 : a < r.length) : dIx (tI r) (.int a) = some (.int (r.getD a.toNat 0)) := by
  have : a.toNat < r.length := by omega
  have h2 : a ≤ (r.length : Int) := by omega
  simp [dIx, tI, L2.atI, L2.ixN, h0, h1, this]
theorem lay_bools : ∀ bs : List Bool, PyData.canLayAll0 (bs.map PyData.bool) = true ∧ PyData.depthAll (bs.map PyData.bool) = 0
  | [] => ⟨rfl, rfl⟩
  | n :: r => by
    obtain ⟨a, b⟩ := lay_bools r
    simp [PyData.canLayAll0, PyData.canLay0, PyData.depthAll, PyData.depth, a, b]
theorem shp_bools (bs : List Bool) : shp (.list (bs.map PyData.bool)) = true := (shp_list (lay_bools bs).1 (by rw [(lay_bools bs).2]; omega)).1
theorem eq_nilB (bs : List Bool) : dEq (.list (bs.map PyData.bool)) (.list []) = some (.bool bs.isEmpty) := by
  have h := shp_bools bs
  have h0 : shp (.list []) = true := shp_bools []
  unfold dEq dEqB
  cases bs with
  | nil => rfl
  | cons n r =>
    show Option.map _ (if (shp (.list ((n :: r).map PyData.bool)) && shp (.list [])) = true then some (PyData.eqv (.list ((n :: r).map PyData.bool)) (.list [])) else none) = _
    rw [h0, h]
    simp [PyData.eqv, PyData.eqvAll]
theorem in_bools (b : Bool) (bs : List Bool) : dInB (.bool b) (.list (bs.map PyData.bool)) = some (bs.contains b) := by
  have h := shp_bools bs
  have hb : shp (.bool b) = true := rfl
  have e : ∀ bs : List Bool, ((bs.map PyData.bool).any fun z => PyData.eqv z (.bool b)) = bs.contains b := by
    intro bs
    induction bs with
    | nil => rfl
    | cons c r ih =>
      have q : PyData.eqv (.bool c) (.bool b) = (b == c) := by cases c <;> cases b <;> first | rfl | simp [PyData.eqv] | decide +kernel
      rw [List.map_cons, List.any_cons, ih, List.contains_cons, q]
  unfold dInB
  show (if (shp (.bool b) && shp (.list (bs.map PyData.bool))) = true then some ((bs.map PyData.bool).any fun z => PyData.eqv z (.bool b)) else none) = _
  rw [hb, h, e]
  rfl
def wordOf (bs : List Bool) : PyData := if bs.isEmpty then .str "none" else if !bs.contains false then .str "surely" else if bs.contains true then .str "maybe" else .str "never"
def seenB (rs : List (List Int)) (a b : Int) : List Bool := rs.map fun r => decide (r.getD a.toNat 0 = b)
theorem word_by_ok {n : Nat} {rs : List (List Int)} (hl : ∀ r ∈ rs, r.length = n) {a b : Int} (h0 : 0 ≤ a) (h1 : a < n) (B : Bag) : sem_word_by [.list (rs.map tI), .int a, .int b] B = .ok (wordOf (seenB rs a b)) B := by
  refine fn_ret rfl ?_
  show sSeq _ _ [.fz (.list (rs.map tI)), .fz (.int a), .fz (.int b), .no, .no] B = _
  have hc : eComp [4] (.one 4) (iSeq (eVar 0)) (eC (.bool true)) (Tp.e2 dEq (Tp.e2 dIx (eVar 4) (eVar 1)) (eVar 2)) [.fz (.list (rs.map tI)), .fz (.int a), .fz (.int b), .no, .no] B = .ok (.list ((seenB rs a b).map PyData.bool)) B := by
    rw [comp_map tI (fun _ => true) (fun r => .bool (decide (r.getD a.toNat 0 = b))) (xs := rs) (by simp [iSeq, eVar, R.bind, seqOf]) ?_, filter_tt, seenB, List.map_map]
    · rfl
    · intro r hr
      refine ⟨[.fz (.list (rs.map tI)), .fz (.int a), .fz (.int b), .no, .fz (tI r)], rfl, rfl, fun _ => ?_⟩
      exact e2_ok (e2_ok rfl rfl (ix_ok h0 (by rw [hl r hr]; exact h1))) rfl rfl
  rw [sSeq_nx (sAsg_ok hc rfl)]
  generalize seenB rs a b = bs
  show sSeq _ _ [.fz (.list (rs.map tI)), .fz (.int a), .fz (.int b), .fz (.list (bs.map PyData.bool)), .no] B = _
  have c1 : Tp.e2 dEq (eVar 3) (eLst (lNil)) [.fz (.list (rs.map tI)), .fz (.int a), .fz (.int b), .fz (.list (bs.map PyData.bool)), .no] B = .ok (.bool bs.isEmpty) B := e2_ok rfl rfl (eq_nilB bs)
  have c2 : Tp.e2 dNin (eC (.bool false)) (eVar 3) [.fz (.list (rs.map tI)), .fz (.int a), .fz (.int b), .fz (.list (bs.map PyData.bool)), .no] B = .ok (.bool (!bs.contains false)) B := e2_ok rfl rfl (by unfold dNin; rw [in_bools]; rfl)
  have c3 : Tp.e2 dIn (eC (.bool true)) (eVar 3) [.fz (.list (rs.map tI)), .fz (.int a), .fz (.int b), .fz (.list (bs.map PyData.bool)), .no] B = .ok (.bool (bs.contains true)) B := e2_ok rfl rfl (by unfold dIn; rw [in_bools]; rfl)
  unfold wordOf
  cases x1 : bs.isEmpty with
  | true =>
    rw [x1] at c1
    exact sSeq_ret ((sIf_t c1).trans rfl)
  | false =>
    rw [x1] at c1
    rw [sSeq_nx (sIfN_f c1)]
    cases x2 : bs.contains false with
    | false =>
      rw [x2] at c2
      exact sSeq_ret ((sIf_t c2).trans rfl)
    | true =>
      rw [x2] at c2
      rw [sSeq_nx (sIfN_f c2)]
      refine sRet_ok ?_
      cases x3 : bs.contains true with
      | true =>
        rw [x3] at c3
        exact (eIf_t c3).trans rfl
      | false =>
        rw [x3] at c3
        exact (eIf_f c3).trans rfl
theorem word_ok {n : Nat} (h1 : 2 ≤ n) (h2 : n ≤ 5) {r : List Int} (p : r.Perm (rI n)) {g : List PyData} (m : Mask r g) {k : PyData} (hk : KOk n k) {a b : Int} (a0 : 0 ≤ a) (a1 : a < n) (b0 : 0 ≤ b) (b1 : b < n) (B : Bag) : sem_word [.int n, .tuple g, k, .int a, .int b] B = .ok (wordOf (seenB (FT n g k) a b)) B := by
  have hl : g.length ≤ 9 := by rw [mask_len m, p.length_eq]; simp [rI]; omega
  refine fn_ret rfl ?_
  show sSeq _ _ [.fz (.int n), .fz (.tuple g), .fz k, .fz (.int a), .fz (.int b)] B = _
  rw [sSeq_nx (sExp_ok ((call_ok rfl).trans (check_ok h1 h2 p m hk B)))]
  rw [sSeq_nx (sExp_ok ((call_ok rfl).trans (check_seat_ok a0 a1 B)))]
  rw [sSeq_nx (sExp_ok ((call_ok rfl).trans (check_seat_ok b0 b1 B)))]
  refine sRet_ok ?_
  have hf := fitting_ok h1 h2 (mask_NI m) hl hk B
  have : (lCons (eCall sem_fitting_by (lCons (eVar 0) (lCons (eVar 1) (lCons (eVar 2) (lNil))))) (lCons (eVar 3) (lCons (eVar 4) (lNil)))) [.fz (.int n), .fz (.tuple g), .fz k, .fz (.int a), .fz (.int b)] B = .ok [.list ((FT n g k).map tI), .int a, .int b] B := by
    simp [lCons, lNil, eCall, eVar, R.bind, hf]
  refine (call_ok this).trans (word_by_ok (n := n) (fun r hr => ?_) a0 a1 B)
  exact pT_perm h1 h2 (List.mem_filter.mp hr).1
theorem count_ok {n : Nat} (h1 : 2 ≤ n) (h2 : n ≤ 5) {r : List Int} (p : r.Perm (rI n)) {g : List PyData} (m : Mask r g) {k : PyData} (hk : KOk n k) (B : Bag) : sem_count_fitting [.int n, .tuple g, k] B = .ok (.int (FT n g k).length) B := by
  have hl : g.length ≤ 9 := by rw [mask_len m, p.length_eq]; simp [rI]; omega
  refine fn_ret rfl ?_
  show sSeq _ _ [.fz (.int n), .fz (.tuple g), .fz k] B = _
  rw [sSeq_nx (sExp_ok ((call_ok rfl).trans (check_ok h1 h2 p m hk B)))]
  refine sRet_ok (e1_ok ((call_ok rfl).trans (fitting_ok h1 h2 (mask_NI m) hl hk B)) ?_)
  simp [dLen]
end Tp

set_option Elab.async false
set_option linter.all false
set_option maxRecDepth 100000
set_option maxHeartbeats 4000000
/-! The plain law of k60: the best look. -/
namespace Tp
open PySem
def mx : List Int → Int
  | [] => 0
  | n :: r => r.foldl max n
theorem dMax_ok {ns : List Int} (h : ns ≠ []) : dMax (.list (ns.map PyData.int)) = some (.int (mx ns)) := by
  cases ns with
  | nil => exact absurd rfl h
  | cons n r =>
    show (intsOf ((n :: r).map PyData.int)).bind _ = _
    rw [ints_map]
    rfl
theorem fold_ge : ∀ (r : List Int) (n : Int), n ≤ r.foldl max n ∧ ∀ x ∈ r, x ≤ r.foldl max n
  | [], n => ⟨Int.le_refl _, fun x h => by cases h⟩
  | a :: r, n => by
    obtain ⟨h1, h2⟩ := fold_ge r (max n a)
    refine ⟨Int.le_trans (by omega) h1, fun x hx => ?_⟩
    rcases List.mem_cons.mp hx with rfl | hx
    · exact Int.le_trans (by omega) h1
    · exact h2 x hx
theorem fold_mem : ∀ (r : List Int) (n : Int), r.foldl max n = n ∨ r.foldl max n ∈ r
  | [], n => .inl rfl
  | a :: r, n => by
    rcases fold_mem r (max n a) with h | h
    · rw [List.foldl_cons, h]
      by_cases q : n ≤ a
      · exact .inr (by rw [show max n a = a by omega]; simp)
      · exact .inl (by omega)
    · exact .inr (List.mem_cons_of_mem _ h)
theorem mx_ge {l : List Int} {x : Int} (h : x ∈ l) : x ≤ mx l := by
  cases l with
  | nil => cases h
  | cons n r =>
    rcases List.mem_cons.mp h with rfl | h
    · exact (fold_ge r _).1
    · exact (fold_ge r n).2 x h
theorem mx_mem {l : List Int} (h : l ≠ []) : mx l ∈ l := by
  cases l with
  | nil => exact absurd rfl h
  | cons n r =>
    rcases fold_mem r n with h | h
    · exact List.mem_cons.mpr (.inl h)
    · exact List.mem_cons.mpr (.inr h)
theorem mx_eq {l m : List Int} (hl : l ≠ []) (hm : m ≠ []) (h : ∀ x, x ∈ l ↔ x ∈ m) : mx l = mx m := by
  have a := mx_ge ((h _).mp (mx_mem hl))
  have b := mx_ge ((h _).mpr (mx_mem hm))
  omega
def col (rs : List (List Int)) (j : Int) : List Int := rs.map fun r => r.getD j.toNat 0
def cnt (c s : List Int) : List Int := s.map fun v => ((c.count v : Nat) : Int)
theorem mx_cnt {c : List Int} (h : c ≠ []) : mx (cnt c (sortI (ddI c))) = mx (cnt c c) := by
  have hm : ∀ x, x ∈ sortI (ddI c) ↔ x ∈ c := fun x => ((sortI_perm _).mem_iff).trans ddI_mem
  have hn : cnt c c ≠ [] := by cases c with | nil => exact absurd rfl h | cons => simp [cnt]
  have hi : ∀ x, x ∈ cnt c (sortI (ddI c)) ↔ x ∈ cnt c c := fun x => by
    unfold cnt
    simp only [List.mem_map, hm]
  refine mx_eq (fun e => ?_) hn hi
  cases c with
  | nil => exact h rfl
  | cons a c =>
    have : (((a :: c).count a : Nat) : Int) ∈ cnt (a :: c) (sortI (ddI (a :: c))) := (hi _).mpr (by simp [cnt])
    rw [e] at this
    cases this
def MM (rs : List (List Int)) (j : Int) : Int := mx (cnt (col rs j) (col rs j))
def encB : Option (Int × Int) → PyData
  | none => .none
  | some (m, j) => .tuple [.int m, .int j]
def bstep (rs : List (List Int)) (o : PyData) (j : Int) (b : Option (Int × Int)) : Option (Int × Int) := if isNoneD o then (match b with
  | none => some (MM rs j, j)
  | some (m, i) => if MM rs j < m then some (MM rs j, j) else some (m, i)) else b
def bloop (rs : List (List Int)) : List PyData → Int → Option (Int × Int) → Option (Int × Int)
  | [], _, b => b
  | o :: g, j, b => bloop rs g (j + 1) (bstep rs o j b)
def bout : Option (Int × Int) → PyData
  | none => .none
  | some (_, j) => .int j
def bestOf (rs : List (List Int)) (g : List PyData) : PyData := if 1 < rs.length then bout (bloop rs g 0 none) else .none
theorem enc_none (b : Option (Int × Int)) : isNoneD (encB b) = b.isNone := by cases b <;> rfl
theorem told_comp {rs : List (List Int)} {own jj : Nat} {n : Nat} (hl : ∀ r ∈ rs, r.length = n) {j : Int} (h0 : 0 ≤ j) (h1 : j < n) {ρ : Env} {B : Bag} (e0 : eVar 0 ρ B = .ok (.list (rs.map tI)) B)
    (hw : ∀ r : List Int, ∃ ρ', (Tg.one own).bnd (tI r) (wipeE ρ [own]) = some ρ' ∧ eVar own ρ' B = .ok (tI r) B ∧ eVar jj ρ' B = .ok (.int j) B) :
    eComp [own] (.one own) (iSeq (eVar 0)) (eC (.bool true)) (Tp.e2 dIx (eVar own) (eVar jj)) ρ B = .ok (.list ((col rs j).map PyData.int)) B := by
  rw [comp_map tI (fun _ => true) (fun r => .int (r.getD j.toNat 0)) (xs := rs) (by simp only [iSeq, e0, R.bind]; rfl) ?_, filter_tt, col, List.map_map]
  · rfl
  · intro r hr
    obtain ⟨ρ', a, b, c⟩ := hw r
    exact ⟨ρ', a, rfl, fun _ => e2_ok b c (ix_ok h0 (by rw [hl r hr]; exact h1))⟩
theorem cnt_comp {c s : List Int} {own src tl : Nat} {ef : LF} {ρ : Env} {B : Bag} (e0 : ef ρ B = .ok (s.map PyData.int) B)
    (hw : ∀ v : Int, ∃ ρ', (Tg.one own).bnd (.int v) (wipeE ρ [own]) = some ρ' ∧ eVar own ρ' B = .ok (.int v) B ∧ eVar tl ρ' B = .ok (.list (c.map PyData.int)) B) :
    eComp [own] (.one own) ef (eC (.bool true)) (Tp.e2 (dTy "list" dCount) (eVar tl) (eVar own)) ρ B = .ok (.list ((cnt c s).map PyData.int)) B := by
  rw [comp_map PyData.int (fun _ => true) (fun v => .int ((c.count v : Nat) : Int)) (xs := s) e0 ?_, filter_tt, cnt, List.map_map]
  · rfl
  · intro v _
    obtain ⟨ρ', a, b, d⟩ := hw v
    refine ⟨ρ', a, rfl, fun _ => e2_ok d b ?_⟩
    show dCount (.list (c.map PyData.int)) (.int v) = _
    simp only [dCount, ints_map, Option.map]
def bodyP : SF := (sSeq (sAsg (.one 5) (eComp [7] (.one 7) (iSeq (eVar 0)) (eC (.bool true)) (Tp.e2 dIx (eVar 7) (eVar 3)))) (sSeq (sAsg (.one 6) (Tp.e1 dMax (eComp [8] (.one 8) (iSeq (eVar 5)) (eC (.bool true)) (Tp.e2 (dTy "list" dCount) (eVar 5) (eVar 8))))) (sIf (eAnd (Tp.e2 dIsN (eVar 4) (eC .none)) (eOr (Tp.e2 dIsN (eVar 2) (eC .none)) (Tp.e2 dLt (eVar 6) (Tp.e2 dIx (eVar 2) (eC (.int 0)))))) (sAsg (.one 2) (eTup (lCons (eVar 6) (lCons (eVar 3) (lNil))))) (sNil))))
def bodyL : SF := (sIf (eAnd (Tp.e2 dIsN (Tp.e2 dIx (eVar 1) (eVar 3)) (eC .none)) (Tp.e2 dGt (Tp.e1 dLen (eVar 0)) (eC (.int 1)))) (sSeq (sAsg (.one 4) (eComp [6] (.one 6) (iSeq (eVar 0)) (eC (.bool true)) (Tp.e2 dIx (eVar 6) (eVar 3)))) (sSeq (sAsg (.one 5) (Tp.e1 dMax (eComp [7] (.one 7) (iSeq (Tp.e1 dSortSet (eVar 4))) (eC (.bool true)) (Tp.e2 (dTy "list" dCount) (eVar 4) (eVar 7))))) (sAsg (.one 2) (eIf (eOr (Tp.e2 dIsN (eVar 2) (eC .none)) (Tp.e2 dLt (eVar 5) (Tp.e2 dIx (eVar 2) (eC (.int 0))))) (eTup (lCons (eVar 5) (lCons (eVar 3) (lNil)))) (eVar 2))))) (sNil))
theorem cnt_ne {c : List Int} (h : c ≠ []) : cnt c c ≠ [] := by cases c with | nil => exact absurd rfl h | cons => simp [cnt]
theorem col_ne {rs : List (List Int)} {j : Int} (h : 1 < rs.length) : col rs j ≠ [] := by cases rs with | nil => simp at h | cons => simp [col]
theorem bodyP_ok {rs : List (List Int)} {n : Nat} (hn : 1 < rs.length) (hl : ∀ r ∈ rs, r.length = n) {j : Int} (h0 : 0 ≤ j) (h1 : j < n) (g : PyData) (o : PyData) (b : Option (Int × Int)) (s5 s6 s7 s8 : Slot) (B : Bag) :
    ∃ s5' s6', bodyP [.fz (.list (rs.map tI)), .fz g, .fz (encB b), .fz (.int j), .fz o, s5, s6, s7, s8] B = .nx [.fz (.list (rs.map tI)), .fz g, .fz (encB (bstep rs o j b)), .fz (.int j), .fz o, s5', s6', s7, s8] B := by
  refine ⟨.fz (.list ((col rs j).map PyData.int)), .fz (.int (MM rs j)), ?_⟩
  unfold bodyP
  rw [sSeq_nx (sAsg_ok (told_comp (rs := rs) (n := n) hl h0 h1 (j := j) rfl fun r => ⟨_, rfl, rfl, rfl⟩) rfl)]
  show sSeq _ _ [.fz (.list (rs.map tI)), .fz g, .fz (encB b), .fz (.int j), .fz o, .fz (.list ((col rs j).map PyData.int)), s6, s7, s8] B = _
  rw [sSeq_nx (sAsg_ok (e1_ok (cnt_comp (c := col rs j) (s := col rs j) (src := 0) rfl fun v => ⟨_, rfl, rfl, rfl⟩) (dMax_ok (cnt_ne (col_ne hn)))) rfl)]
  show sIf _ _ _ [.fz (.list (rs.map tI)), .fz g, .fz (encB b), .fz (.int j), .fz o, .fz (.list ((col rs j).map PyData.int)), .fz (.int (MM rs j)), s7, s8] B = _
  cases ho : isNoneD o with
  | false =>
    rw [sIfN_f ((eAnd_f (e2_ok rfl rfl (by rw [isN_ok, ho]))))]
    simp [bstep, ho]
  | true =>
    have q := eAnd_t (g := (eOr (Tp.e2 dIsN (eVar 2) (eC .none)) (Tp.e2 dLt (eVar 6) (Tp.e2 dIx (eVar 2) (eC (.int 0)))))) (show Tp.e2 dIsN (eVar 4) (eC .none) [.fz (.list (rs.map tI)), .fz g, .fz (encB b), .fz (.int j), .fz o, .fz (.list ((col rs j).map PyData.int)), .fz (.int (MM rs j)), s7, s8] B = .ok (.bool true) B from e2_ok rfl rfl (by rw [isN_ok, ho]))
    cases b with
    | none =>
      rw [sIf_t (q.trans (eOr_t (e2_ok rfl rfl rfl)))]
      simp [bstep, ho]
      rfl
    | some mi =>
      obtain ⟨m, i⟩ := mi
      have q2 := q.trans ((eOr_f (e2_ok rfl rfl rfl)).trans (e2_ok (v := .bool (decide (MM rs j < m))) rfl (e2_ok rfl rfl rfl) rfl))
      by_cases hm : MM rs j < m
      · rw [decide_eq_true hm] at q2
        rw [sIf_t q2]
        simp [bstep, ho, hm]
        rfl
      · rw [decide_eq_false hm] at q2
        rw [sIfN_f q2]
        simp [bstep, ho, hm]
end Tp

set_option Elab.async false
set_option linter.all false
set_option maxRecDepth 100000
set_option maxHeartbeats 4000000
/-! The plain law of k60: both best looks. -/
namespace Tp
open PySem
theorem pig : ∀ (s l : List Int), s.Nodup → (∀ x ∈ s, x ∈ l) → s.length ≤ l.length
  | [], l, _, _ => Nat.zero_le _
  | a :: s, l, nd, h => by
    have nd' := List.nodup_cons.mp nd
    have ha := h a (List.mem_cons_self ..)
    have := pig s (l.erase a) nd'.2 fun x hx => (List.mem_erase_of_ne (fun e => nd'.1 (by rw [← e]; exact hx))).mpr (h x (List.mem_cons_of_mem _ hx))
    rw [List.length_erase_of_mem ha] at this
    have : 0 < l.length := List.length_pos_of_mem ha
    simp only [List.length_cons]
    omega
theorem sortset_ok {rs : List (List Int)} {n : Nat} (hl : ∀ r ∈ rs, r.length = n) (hs : ∀ r ∈ rs, ∀ v ∈ r, v ∈ rI 5) (hc : rs.length < 1000) {j : Int} (h0 : 0 ≤ j) (h1 : j < n) : dSortSet (.list ((col rs j).map PyData.int)) = some (.list ((sortI (ddI (col rs j))).map PyData.int)) := by
  have a : (ddI (col rs j)).length ≤ (rI 5).length := pig _ _ (ddI_nodup _) fun x hx => by
    have := ddI_mem.mp hx
    simp only [col, List.mem_map] at this
    obtain ⟨r, hr, rfl⟩ := this
    have hj : j.toNat < r.length := by rw [hl r hr]; omega
    have : r.getD j.toNat 0 = r[j.toNat] := by simp [List.getD, hj]
    rw [this]
    exact hs r hr _ (List.getElem_mem hj)
  have b : (ddI (col rs j)).length < 64 := by simp [rI] at a; omega
  have c : (col rs j).length < 1000 := by simp [col, hc]
  simp [dSortSet, seqOf, ints_map, b, c]
theorem len_gt {rs : List (List Int)} {ρ : Env} {B : Bag} (h : eVar 0 ρ B = .ok (.list (rs.map tI)) B) : Tp.e2 dGt (Tp.e1 dLen (eVar 0)) (eC (.int 1)) ρ B = .ok (.bool (decide (1 < rs.length))) B := by
  have e : dGt (.int ((rs.map tI).length : Nat)) (.int 1) = some (.bool (decide (1 < rs.length))) := by
    show some (PyData.bool (decide ((1 : Int) < ((rs.map tI).length : Nat)))) = _
    rw [List.length_map]
    congr 2
    exact decide_eq_decide.mpr (by omega)
  exact e2_ok (e1_ok (op := dLen) (v := .int ((rs.map tI).length : Nat)) h rfl) rfl e
theorem bodyL_ok {rs : List (List Int)} {n : Nat} (hn : 1 < rs.length) (hl : ∀ r ∈ rs, r.length = n) (hs : ∀ r ∈ rs, ∀ v ∈ r, v ∈ rI 5) (hc : rs.length < 1000) {j : Int} (h0 : 0 ≤ j) (h1 : j < n) (g : List PyData) (o : PyData) (ho : dIx (.tuple g) (.int j) = some o) (b : Option (Int × Int)) (s4 s5 s6 s7 : Slot) (B : Bag) :
    ∃ s4' s5', bodyL [.fz (.list (rs.map tI)), .fz (.tuple g), .fz (encB b), .fz (.int j), s4, s5, s6, s7] B = .nx [.fz (.list (rs.map tI)), .fz (.tuple g), .fz (encB (bstep rs o j b)), .fz (.int j), s4', s5', s6, s7] B := by
  unfold bodyL
  cases hno : isNoneD o with
  | false =>
    refine ⟨s4, s5, ?_⟩
    have q1 : Tp.e2 dIsN (Tp.e2 dIx (eVar 1) (eVar 3)) (eC .none) [.fz (.list (rs.map tI)), .fz (.tuple g), .fz (encB b), .fz (.int j), s4, s5, s6, s7] B = .ok (.bool false) B := e2_ok (e2_ok rfl rfl ho) rfl (by rw [isN_ok, hno])
    rw [sIfN_f (eAnd_f q1)]
    simp [bstep, hno]
  | true =>
    refine ⟨.fz (.list ((col rs j).map PyData.int)), .fz (.int (MM rs j)), ?_⟩
    have q1 : Tp.e2 dIsN (Tp.e2 dIx (eVar 1) (eVar 3)) (eC .none) [.fz (.list (rs.map tI)), .fz (.tuple g), .fz (encB b), .fz (.int j), s4, s5, s6, s7] B = .ok (.bool true) B := e2_ok (e2_ok rfl rfl ho) rfl (by rw [isN_ok, hno])
    have q2 := len_gt (rs := rs) (ρ := [.fz (.list (rs.map tI)), .fz (.tuple g), .fz (encB b), .fz (.int j), s4, s5, s6, s7]) (B := B) rfl
    rw [decide_eq_true hn] at q2
    rw [sIf_t ((eAnd_t q1).trans q2)]
    rw [sSeq_nx (sAsg_ok (told_comp (rs := rs) (n := n) hl h0 h1 (j := j) rfl fun r => ⟨_, rfl, rfl, rfl⟩) rfl)]
    show sSeq _ _ [.fz (.list (rs.map tI)), .fz (.tuple g), .fz (encB b), .fz (.int j), .fz (.list ((col rs j).map PyData.int)), s5, s6, s7] B = _
    have hne : cnt (col rs j) (sortI (ddI (col rs j))) ≠ [] := fun e => by
      have := (sortI_perm (ddI (col rs j))).length_eq
      unfold cnt at e
      rw [List.map_eq_nil_iff.mp e] at this
      cases hc : col rs j with
      | nil => exact col_ne hn hc
      | cons a r =>
        have hm : a ∈ ddI (col rs j) := ddI_mem.mpr (by rw [hc]; simp)
        rw [List.eq_nil_of_length_eq_zero this.symm] at hm
        cases hm
    have hmx := dMax_ok hne
    rw [mx_cnt (col_ne hn)] at hmx
    have hsrc : iSeq (Tp.e1 dSortSet (eVar 4)) [.fz (.list (rs.map tI)), .fz (.tuple g), .fz (encB b), .fz (.int j), .fz (.list ((col rs j).map PyData.int)), s5, s6, s7] B = .ok ((sortI (ddI (col rs j))).map PyData.int) B := by
      have := e1_ok (op := dSortSet) (f := eVar 4) (ρ := [.fz (.list (rs.map tI)), .fz (.tuple g), .fz (encB b), .fz (.int j), .fz (.list ((col rs j).map PyData.int)), s5, s6, s7]) (B := B) (B' := B) rfl (sortset_ok hl hs hc h0 h1)
      simp only [iSeq, this, R.bind]
      rfl
    rw [sSeq_nx (sAsg_ok (e1_ok (cnt_comp (c := col rs j) (s := sortI (ddI (col rs j))) (src := 0) hsrc fun v => ⟨_, rfl, rfl, rfl⟩) hmx) rfl)]
    show sAsg _ _ [.fz (.list (rs.map tI)), .fz (.tuple g), .fz (encB b), .fz (.int j), .fz (.list ((col rs j).map PyData.int)), .fz (.int (MM rs j)), s6, s7] B = _
    cases b with
    | none =>
      rw [sAsg_ok ((eIf_t (eOr_t (e2_ok rfl rfl rfl))).trans rfl) rfl]
      simp [bstep, hno]
      rfl
    | some mi =>
      obtain ⟨m, i⟩ := mi
      have q2 : eOr (Tp.e2 dIsN (eVar 2) (eC .none)) (Tp.e2 dLt (eVar 5) (Tp.e2 dIx (eVar 2) (eC (.int 0)))) [.fz (.list (rs.map tI)), .fz (.tuple g), .fz (encB (some (m, i))), .fz (.int j), .fz (.list ((col rs j).map PyData.int)), .fz (.int (MM rs j)), s6, s7] B = .ok (.bool (decide (MM rs j < m))) B := (eOr_f (e2_ok rfl rfl rfl)).trans (e2_ok (v := .bool (decide (MM rs j < m))) rfl (e2_ok rfl rfl rfl) rfl)
      by_cases hm : MM rs j < m
      · rw [decide_eq_true hm] at q2
        rw [sAsg_ok ((eIf_t q2).trans rfl) rfl]
        simp [bstep, hno, hm]
        rfl
      · rw [decide_eq_false hm] at q2
        rw [sAsg_ok ((eIf_f q2).trans rfl) rfl]
        simp [bstep, hno, hm]
theorem loopP {rs : List (List Int)} {n : Nat} (hn : 1 < rs.length) (hl : ∀ r ∈ rs, r.length = n) (G : PyData) (s7 s8 : Slot) (B : Bag) : ∀ (g : List PyData) (j : Int) (b : Option (Int × Int)) (s3 s4 s5 s6 : Slot), 0 ≤ j → j + g.length ≤ n → ∃ s3' s4' s5' s6',
    forF (.many [3, 4]) bodyP (enumD j g) [.fz (.list (rs.map tI)), .fz G, .fz (encB b), s3, s4, s5, s6, s7, s8] B = .nx [.fz (.list (rs.map tI)), .fz G, .fz (encB (bloop rs g j b)), s3', s4', s5', s6', s7, s8] B
  | [], j, b, s3, s4, s5, s6, _, _ => ⟨s3, s4, s5, s6, rfl⟩
  | o :: g, j, b, s3, s4, s5, s6, h0, h1 => by
    simp only [List.length_cons] at h1
    obtain ⟨t5, t6, e⟩ := bodyP_ok hn hl h0 (by omega) G o b s5 s6 s7 s8 B
    obtain ⟨a3, a4, a5, a6, e2⟩ := loopP hn hl G s7 s8 B g (j + 1) (bstep rs o j b) (.fz (.int j)) (.fz o) t5 t6 (by omega) (by omega)
    refine ⟨a3, a4, a5, a6, ?_⟩
    show forF _ _ (.tuple [.int j, o] :: enumD (j + 1) g) _ _ = _
    rw [forF_cons rfl e, e2]
    rfl
def idx : Int → List PyData → List Int
  | _, [] => []
  | j, _ :: g => j :: idx (j + 1) g
theorem loopL {rs : List (List Int)} {n : Nat} (hn : 1 < rs.length) (hl : ∀ r ∈ rs, r.length = n) (hs : ∀ r ∈ rs, ∀ v ∈ r, v ∈ rI 5) (hc : rs.length < 1000) (s6 s7 : Slot) (B : Bag) : ∀ (g pre : List PyData) (b : Option (Int × Int)) (s3 s4 s5 : Slot), pre.length + g.length ≤ n → ∃ s3' s4' s5',
    forF (.one 3) bodyL ((idx pre.length g).map PyData.int) [.fz (.list (rs.map tI)), .fz (.tuple (pre ++ g)), .fz (encB b), s3, s4, s5, s6, s7] B = .nx [.fz (.list (rs.map tI)), .fz (.tuple (pre ++ g)), .fz (encB (bloop rs g pre.length b)), s3', s4', s5', s6, s7] B
  | [], pre, b, s3, s4, s5, _ => ⟨s3, s4, s5, rfl⟩
  | o :: g, pre, b, s3, s4, s5, h1 => by
    simp only [List.length_cons] at h1
    have hix : dIx (.tuple (pre ++ o :: g)) (.int (pre.length : Nat)) = some o := by
      have : (pre.length : Int) < ((pre ++ o :: g).length : Nat) := by simp; omega
      simp only [dIx, L2.atI, L2.ixN, if_pos this, Int.natCast_nonneg, if_true, Int.toNat_natCast, Option.bind]
      simp
    obtain ⟨t4, t5, e⟩ := bodyL_ok hn hl hs hc (j := (pre.length : Nat)) (by omega) (by omega) (pre ++ o :: g) o hix b s4 s5 s6 s7 B
    obtain ⟨a3, a4, a5, e2⟩ := loopL hn hl hs hc s6 s7 B g (pre ++ [o]) (bstep rs o (pre.length : Nat) b) (.fz (.int (pre.length : Nat))) t4 t5 (by simp; omega)
    refine ⟨a3, a4, a5, ?_⟩
    simp only [List.append_assoc, List.singleton_append, List.length_append, List.length_singleton, Int.natCast_add, Int.cast_ofNat_Int] at e2
    show forF _ _ (.int (pre.length : Nat) :: (idx ((pre.length : Nat) + 1) g).map PyData.int) _ _ = _
    rw [forF_cons rfl e, e2]
    rfl
theorem idx_eq : ∀ (g : List PyData) (j : Nat), (idx j g).map PyData.int = (List.range g.length).map fun (k : Nat) => PyData.int (((j + k : Nat) : Nat) : Int)
  | [], _ => rfl
  | _ :: g, j => by
    have := idx_eq g (j + 1)
    rw [List.length_cons, List.range_succ_eq_map, List.map_cons, List.map_map]
    show .int (j : Int) :: (idx ((j : Int) + 1) g).map PyData.int = _
    rw [show ((j : Int) + 1) = ((j + 1 : Nat) : Int) by omega, this]
    congr 1
    refine List.map_congr_left fun k _ => ?_
    show PyData.int _ = PyData.int _
    congr 2
    simp only [Nat.succ_eq_add_one]
    omega
theorem look_by_ok {rs : List (List Int)} {n : Nat} (hl : ∀ r ∈ rs, r.length = n) {g : List PyData} (hg : g.length = n) (h9 : n ≤ 9) (B : Bag) : sem_best_look_by [.list (rs.map tI), .tuple g] B = .ok (bestOf rs g) B := by
  refine fn_ret rfl ?_
  show sSeq _ _ [.fz (.list (rs.map tI)), .fz (.tuple g), .no, .no, .no, .no, .no, .no, .no] B = _
  rw [sSeq_nx (sAsg_ok rfl rfl)]
  show sSeq _ _ [.fz (.list (rs.map tI)), .fz (.tuple g), .fz (encB none), .no, .no, .no, .no, .no, .no] B = _
  have hgt := len_gt (rs := rs) (ρ := [.fz (.list (rs.map tI)), .fz (.tuple g), .fz (encB none), .no, .no, .no, .no, .no, .no]) (B := B) rfl
  have hgl : g.length ≤ lim := by unfold lim; omega
  by_cases hn : 1 < rs.length
  · rw [decide_eq_true hn] at hgt
    obtain ⟨a3, a4, a5, a6, e⟩ := loopP hn hl (.tuple g) .no .no B g 0 none .no .no .no .no (by omega) (by omega)
    have hsrc : iEnumT (eIf (Tp.e2 dGt (Tp.e1 dLen (eVar 0)) (eC (.int 1))) (eVar 1) (eTup (lNil))) [.fz (.list (rs.map tI)), .fz (.tuple g), .fz (encB none), .no, .no, .no, .no, .no, .no] B = .ok (enumD 0 g) B := by
      have q := eIf_t (f := eVar 1) (g := eTup lNil) hgt
      simp only [iEnumT, q]
      simp [eVar, R.bind, hgl]
    show sSeq (sFor (.many [3, 4]) _ bodyP) _ _ B = _
    rw [sSeq_nx ((sFor_ok hsrc).trans e)]
    refine sRet_ok ?_
    simp only [bestOf, if_pos hn]
    cases bloop rs g 0 none with
    | none => exact (eIf_t (e2_ok rfl rfl rfl)).trans rfl
    | some mi => exact (eIf_f (e2_ok rfl rfl rfl)).trans (e2_ok rfl rfl rfl)
  · rw [decide_eq_false hn] at hgt
    have hsrc : iEnumT (eIf (Tp.e2 dGt (Tp.e1 dLen (eVar 0)) (eC (.int 1))) (eVar 1) (eTup (lNil))) [.fz (.list (rs.map tI)), .fz (.tuple g), .fz (encB none), .no, .no, .no, .no, .no, .no] B = .ok [] B := by
      have q := eIf_f (f := eVar 1) (g := eTup lNil) hgt
      simp only [iEnumT, q]
      simp [eTup, lNil, R.bind, enumD]
    show sSeq (sFor (.many [3, 4]) _ bodyP) _ _ B = _
    rw [sSeq_nx ((sFor_ok hsrc).trans (show forF _ _ [] _ _ = SO.nx _ _ from rfl))]
    refine sRet_ok ?_
    simp only [bestOf, if_neg hn]
    exact (eIf_t (e2_ok rfl rfl rfl)).trans rfl
theorem bodyL_few {rs : List (List Int)} (hn : ¬ 1 < rs.length) (g : List PyData) (j : Int) (o : PyData) (ho : dIx (.tuple g) (.int j) = some o) (s4 s5 s6 s7 : Slot) (B : Bag) :
    bodyL [.fz (.list (rs.map tI)), .fz (.tuple g), .fz .none, .fz (.int j), s4, s5, s6, s7] B = .nx [.fz (.list (rs.map tI)), .fz (.tuple g), .fz .none, .fz (.int j), s4, s5, s6, s7] B := by
  have hgt := len_gt (rs := rs) (ρ := [.fz (.list (rs.map tI)), .fz (.tuple g), .fz .none, .fz (.int j), s4, s5, s6, s7]) (B := B) rfl
  rw [decide_eq_false hn] at hgt
  have q1 : Tp.e2 dIsN (Tp.e2 dIx (eVar 1) (eVar 3)) (eC .none) [.fz (.list (rs.map tI)), .fz (.tuple g), .fz .none, .fz (.int j), s4, s5, s6, s7] B = .ok (.bool (isNoneD o)) B := e2_ok (e2_ok rfl rfl ho) rfl (isN_ok o)
  unfold bodyL
  cases hno : isNoneD o with
  | false =>
    rw [hno] at q1
    exact sIfN_f (eAnd_f q1)
  | true =>
    rw [hno] at q1
    exact sIfN_f ((eAnd_t q1).trans hgt)
theorem loopF {rs : List (List Int)} (hn : ¬ 1 < rs.length) (s6 s7 : Slot) (B : Bag) : ∀ (g pre : List PyData) (s3 s4 s5 : Slot), ∃ s3',
    forF (.one 3) bodyL ((idx pre.length g).map PyData.int) [.fz (.list (rs.map tI)), .fz (.tuple (pre ++ g)), .fz .none, s3, s4, s5, s6, s7] B = .nx [.fz (.list (rs.map tI)), .fz (.tuple (pre ++ g)), .fz .none, s3', s4, s5, s6, s7] B
  | [], pre, s3, s4, s5 => ⟨s3, rfl⟩
  | o :: g, pre, s3, s4, s5 => by
    have hix : dIx (.tuple (pre ++ o :: g)) (.int (pre.length : Nat)) = some o := by
      have : (pre.length : Int) < ((pre ++ o :: g).length : Nat) := by simp; omega
      simp only [dIx, L2.atI, L2.ixN, if_pos this, Int.natCast_nonneg, if_true, Int.toNat_natCast, Option.bind]
      simp
    have e := bodyL_few hn (pre ++ o :: g) (pre.length : Nat) o hix s4 s5 s6 s7 B
    obtain ⟨a3, e2⟩ := loopF hn s6 s7 B g (pre ++ [o]) (.fz (.int (pre.length : Nat))) s4 s5
    refine ⟨a3, ?_⟩
    simp only [List.append_assoc, List.singleton_append, List.length_append, List.length_singleton, Int.natCast_add, Int.cast_ofNat_Int] at e2
    show forF _ _ (.int (pre.length : Nat) :: (idx ((pre.length : Nat) + 1) g).map PyData.int) _ _ = _
    rw [forF_cons rfl e, e2]
theorem law_look_ok {rs : List (List Int)} {n : Nat} (hl : ∀ r ∈ rs, r.length = n) (hs : ∀ r ∈ rs, ∀ v ∈ r, v ∈ rI 5) (hc : rs.length < 1000) {g : List PyData} (hg : g.length = n) (h9 : n ≤ 9) (B : Bag) : sem__law_best_look [.list (rs.map tI), .tuple g] B = .ok (bestOf rs g) B := by
  refine fn_ret rfl ?_
  show sSeq _ _ [.fz (.list (rs.map tI)), .fz (.tuple g), .no, .no, .no, .no, .no, .no] B = _
  rw [sSeq_nx (sAsg_ok rfl rfl)]
  show sSeq _ _ [.fz (.list (rs.map tI)), .fz (.tuple g), .fz (encB none), .no, .no, .no, .no, .no] B = _
  have hsm : smallI (g.length : Int) = true := by unfold smallI; simp; omega
  have hsrc : iRng1 (Tp.e1 dLen (eVar 1)) [.fz (.list (rs.map tI)), .fz (.tuple g), .fz (encB none), .no, .no, .no, .no, .no] B = .ok ((idx (0 : Nat) g).map PyData.int) B := by
    have q := e1_ok (op := dLen) (f := eVar 1) (ρ := [.fz (.list (rs.map tI)), .fz (.tuple g), .fz (encB none), .no, .no, .no, .no, .no]) (B := B) (B' := B) rfl rfl
    rw [idx_eq]
    simp only [iRng1, q, R.bind, hsm, if_true, rngI]
    simp
  by_cases hn : 1 < rs.length
  · obtain ⟨a3, a4, a5, e⟩ := loopL hn hl hs hc .no .no B g [] none .no .no .no (by simp; omega)
    show sSeq (sFor (.one 3) _ bodyL) _ _ B = _
    rw [sSeq_nx ((sFor_ok hsrc).trans e)]
    refine sRet_ok ?_
    simp only [bestOf, if_pos hn]
    show eIf _ _ _ [.fz (.list (rs.map tI)), .fz (.tuple g), .fz (encB (bloop rs g 0 none)), a3, a4, a5, .no, .no] B = _
    cases bloop rs g 0 none with
    | none => exact (eIf_f (e2_ok rfl rfl rfl)).trans rfl
    | some mi => exact (eIf_t (e2_ok rfl rfl rfl)).trans (e2_ok rfl rfl rfl)
  · obtain ⟨a3, e⟩ := loopF (rs := rs) hn .no .no B g [] .no .no .no
    show sSeq (sFor (.one 3) _ bodyL) _ _ B = _
    rw [sSeq_nx ((sFor_ok hsrc).trans e)]
    refine sRet_ok ?_
    simp only [bestOf, if_neg hn]
    exact (eIf_f (e2_ok rfl rfl rfl)).trans rfl
end Tp

set_option Elab.async false
set_option linter.all false
set_option maxRecDepth 100000
set_option maxHeartbeats 4000000
/-! The plain law of k60: a round answers True. -/
namespace Tp
open PySem
theorem lCons_ok {f : EF} {l : LF} {ρ : Env} {B B1 B2 : Bag} {d : PyData} {ds : List PyData} (h : f ρ B = .ok d B1) (h2 : l ρ B1 = .ok ds B2) : lCons f l ρ B = .ok (d :: ds) B2 := by simp [lCons, h, h2, R.bind]
theorem eTup_ok {l : LF} {ρ : Env} {B B1 : Bag} {ds : List PyData} (h : l ρ B = .ok ds B1) : eTup l ρ B = .ok (.tuple ds) B1 := by simp [eTup, h, R.bind]
theorem eLst_ok {l : LF} {ρ : Env} {B B1 : Bag} {ds : List PyData} (h : l ρ B = .ok ds B1) : eLst l ρ B = .ok (.list ds) B1 := by simp [eLst, h, R.bind]
theorem sPar_ok {i j : Nat} {f g : EF} {ρ : Env} {B B1 B2 : Bag} {d e : PyData} (h1 : f ρ B = .ok d B1) (h2 : g ρ B1 = .ok e B2) : sPar i j 0 0 f g ρ B = .nx ((ρ.set i (.fz d)).set j (.fz e)) B2 := by simp [sPar, toS, h1, h2, slotM]
theorem drawn_ok (B : Bag) : ∃ (n : Nat) (r : List Int) (B' : Bag), 2 ≤ n ∧ n ≤ 5 ∧ r.Perm (rI n) ∧ sem__law_drawn [.int 2, .int 5] B = .ok (.tuple [.int n, tI r]) B' := by
  obtain ⟨d, B1, e1, d0, d1⟩ := take_ok 4 (by decide) (by decide) B
  have hn : (2 : Int) + d = ((2 + d.toNat : Nat) : Int) := by omega
  obtain ⟨r, B2, e2, p⟩ := other_ok (2 + d.toNat) (by omega) B1
  refine ⟨2 + d.toNat, r, B2, by omega, by omega, p, ?_⟩
  refine fn_ret rfl ?_
  show sSeq _ _ [.bg, .fz (.int 2), .fz (.int 5), .no] B = _
  have a1 : Tp.e2 dAdd (eVar 1) (eCallB 0 sem__law_take (lCons (Tp.e2 dAdd (Tp.e2 dSub (eVar 2) (eVar 1)) (eC (.int 1))) (lNil))) [.bg, .fz (.int 2), .fz (.int 5), .no] B = .ok (.int ((2 + d.toNat : Nat) : Int)) B1 := by
    refine e2_ok (x := .int 2) (y := .int d) rfl ?_ ?_
    · show eCall sem__law_take _ _ _ = _
      exact (call_ok rfl).trans e1
    · rw [← hn]; rfl
  rw [sSeq_nx (sAsg_ok a1 rfl)]
  refine sRet_ok ?_
  show eTup _ [.bg, .fz (.int 2), .fz (.int 5), .fz (.int ((2 + d.toNat : Nat) : Int))] B1 = _
  have a2 : eCallB 0 sem__law_other (lCons (eVar 3) (lNil)) [.bg, .fz (.int 2), .fz (.int 5), .fz (.int ((2 + d.toNat : Nat) : Int))] B1 = .ok (tI r) B2 := by
    show eCall sem__law_other _ _ _ = _
    exact (call_ok rfl).trans e2
  exact eTup_ok (lCons_ok rfl (lCons_ok a2 rfl))
theorem takeB_ok {ρ : Env} (h : ρ[0]? = some .bg) (n : Int) (h1 : 0 < n) (h2 : n < 1073741824) {e : EF} (he : ∀ B, e ρ B = .ok (.int n) B) (B : Bag) : ∃ d B', eCallB 0 sem__law_take (lCons e (lNil)) ρ B = .ok (.int d) B' ∧ 0 ≤ d ∧ d < n := by
  obtain ⟨d, B', e1, a, b⟩ := take_ok n h1 h2 B
  refine ⟨d, B', ?_, a, b⟩
  unfold eCallB
  rw [h]
  refine (call_ok (ds := [.int n]) ?_).trans e1
  simp only [lCons, he, R.bind, lNil]
theorem zero_ok {ρ : Env} (h : ρ[0]? = some .bg) (n : Int) (h1 : 0 < n) (h2 : n < 1073741824) (B : Bag) : ∃ b B', Tp.e2 dEq (eCallB 0 sem__law_take (lCons (eC (.int n)) (lNil))) (eC (.int 0)) ρ B = .ok (.bool b) B' := by
  obtain ⟨d, B', e1, _, _⟩ := takeB_ok h n h1 h2 (e := eC (.int n)) (fun _ => rfl) B
  exact ⟨decide (d = 0), B', e2_ok e1 rfl rfl⟩
theorem show_ints (i : Int) (h : -1000000000000000000 < i ∧ i < 1000000000000000000) : dReprNe (.list [.int i, .int i]) (.list [.int i, .int i]) = some (.bool false) := by
  simp [dReprNe, sameD, sameL, okShow, isSeqD, plainD, plainL, costD, costL, PyData.depth, PyData.depthAll, h]
theorem show_none : dReprNe (.list [.none, .none]) (.list [.none, .none]) = some (.bool false) := by
  simp [dReprNe, sameD, sameL, okShow, isSeqD, plainD, plainL, costD, costL, PyData.depth, PyData.depthAll]
theorem show_word (bs : List Bool) : dReprNe (.list [wordOf bs, wordOf bs]) (.list [wordOf bs, wordOf bs]) = some (.bool false) := by
  unfold wordOf
  split
  · kernel_rfl
  · split
    · kernel_rfl
    · split <;> kernel_rfl
theorem two_ok {s : FSem} {ds : List PyData} {p : List PyData → List PyData} {l l2 : LF} {ρ : Env} {B : Bag} {d : PyData} {es : List PyData} (h1 : l ρ B = .ok ds B) (h2 : l2 ρ B = .ok es B) (hp : p es = ds) (h : s ds B = .ok d B) :
    eLst (lCons (eCall s l) (lCons (eCallK s p l2) (lNil))) ρ B = .ok (.list [d, d]) B := by
  simp only [eLst, lCons, eCall, eCallK, h1, h2, hp, h, R.bind, lNil]
theorem look_ok {n : Nat} (h1 : 2 ≤ n) (h2 : n ≤ 5) {r : List Int} (p : r.Perm (rI n)) {g : List PyData} (m : Mask r g) {k : PyData} (hk : KOk n k) (B : Bag) : sem_best_look [.int n, .tuple g, k] B = .ok (bestOf (FT n g k) g) B := by
  have hgl : g.length = n := by rw [mask_len m, p.length_eq]; simp [rI]
  refine fn_ret rfl ?_
  show sSeq _ _ [.fz (.int n), .fz (.tuple g), .fz k] B = _
  rw [sSeq_nx (sExp_ok ((call_ok rfl).trans (check_ok h1 h2 p m hk B)))]
  refine sRet_ok ?_
  have hf := fitting_ok h1 h2 (mask_NI m) (by omega) hk B
  have : (lCons (eCall sem_fitting_by (lCons (eVar 0) (lCons (eVar 1) (lCons (eVar 2) (lNil))))) (lCons (eVar 1) (lNil))) [.fz (.int n), .fz (.tuple g), .fz k] B = .ok [.list ((FT n g k).map tI), .tuple g] B := by
    simp [lCons, lNil, eCall, eVar, R.bind, hf]
  exact (call_ok this).trans (look_by_ok (n := n) (fun r hr => pT_perm h1 h2 (List.mem_filter.mp hr).1) hgl (by omega) B)
theorem tab_in : ∀ n, n ≤ 5 → ∀ r ∈ pT n, ∀ v ∈ r, v ∈ rI 5 := by decide +kernel
theorem bout_ok (rs : List (List Int)) : ∀ (g : List PyData) (j : Int) (b : Option (Int × Int)), 0 ≤ j → (∀ m i, b = some (m, i) → 0 ≤ i ∧ i < j) → (bout (bloop rs g j b) = .none ∨ ∃ i : Int, 0 ≤ i ∧ i < j + g.length ∧ bout (bloop rs g j b) = .int i)
  | [], j, none, _, _ => .inl rfl
  | [], j, some (m, i), _, h => .inr ⟨i, (h m i rfl).1, by have := (h m i rfl).2; simp; omega, rfl⟩
  | o :: g, j, b, h0, h => by
    rcases bout_ok rs g (j + 1) (bstep rs o j b) (by omega) (fun m i e => by
      unfold bstep at e
      split at e
      · split at e
        · simp only [Option.some.injEq, Prod.mk.injEq] at e; omega
        · rename_i m' i'
          have := h m' i' rfl
          split at e <;> (simp only [Option.some.injEq, Prod.mk.injEq] at e; omega)
      · have := h m i e; omega) with e | ⟨i, a, c, e⟩
    · exact .inl e
    · exact .inr ⟨i, a, by simp; omega, e⟩
theorem show_best (rs : List (List Int)) {g : List PyData} (hg : g.length ≤ 9) : dReprNe (.list [bestOf rs g, bestOf rs g]) (.list [bestOf rs g, bestOf rs g]) = some (.bool false) := by
  unfold bestOf
  split
  · rcases bout_ok rs g 0 none (by omega) (fun _ _ e => by cases e) with e | ⟨i, a, b, e⟩
    · rw [e]; exact show_none
    · rw [e]; exact show_ints i (by omega)
  · exact show_none
/-- the word that is due -/
theorem due_ok (bs : List Bool) {ρ : Env} {B : Bag} {e9 : eVar 9 ρ B = .ok (.list (bs.map PyData.bool)) B} (h10 : ρ.set 10 (.fz (.str "maybe")) = ρ) :
    sIf (Tp.e2 dEq (eVar 9) (eLst (lNil))) (sAsg (.one 10) (eC (.str "none"))) (sIf (eOr (Tp.e2 dNin (eC (.bool false)) (eVar 9)) (Tp.e2 dNin (eC (.bool true)) (eVar 9))) (sAsg (.one 10) (eIf (Tp.e2 dIx (eVar 9) (eC (.int 0))) (eC (.str "surely")) (eC (.str "never")))) (sNil)) ρ B = .nx (ρ.set 10 (.fz (wordOf bs))) B := by
  have c1 : Tp.e2 dEq (eVar 9) (eLst (lNil)) ρ B = .ok (.bool bs.isEmpty) B := e2_ok e9 rfl (eq_nilB bs)
  have c2 : ∀ b, Tp.e2 dNin (eC (.bool b)) (eVar 9) ρ B = .ok (.bool (!bs.contains b)) B := fun b => e2_ok rfl e9 (by unfold dNin; rw [in_bools]; rfl)
  cases bs with
  | nil => exact (sIf_t c1).trans (sAsg_ok rfl rfl)
  | cons b t =>
    rw [sIf_f c1]
    have cf := c2 false
    have ct := c2 true
    have hix : Tp.e2 dIx (eVar 9) (eC (.int 0)) ρ B = .ok (.bool b) B := e2_ok e9 rfl (by simp [dIx, L2.atI, L2.ixN])
    unfold wordOf
    cases x2 : (b :: t).contains false with
    | false =>
      rw [x2] at cf
      rw [sIf_t (eOr_t cf)]
      have hb : b = true := by cases b <;> simp_all
      subst hb
      exact sAsg_ok ((eIf_t hix).trans rfl) rfl
    | true =>
      rw [x2] at cf
      cases x3 : (b :: t).contains true with
      | false =>
        rw [x3] at ct
        rw [sIf_t ((eOr_f cf).trans ct)]
        have hb : b = false := by cases b <;> simp_all
        subst hb
        exact sAsg_ok ((eIf_f hix).trans rfl) rfl
      | true =>
        rw [x3] at ct
        rw [sIfN_f ((eOr_f cf).trans ct)]
        show SO.nx ρ B = .nx (ρ.set 10 (.fz (.str "maybe"))) B
        rw [h10]
end Tp

set_option Elab.async false
set_option linter.all false
set_option maxRecDepth 100000
set_option maxHeartbeats 4000000
/-! The plain law of k60: the whole round. -/
namespace Tp
open PySem
def bodyR : SF := (sSeq (sAsg (.many [11, 12]) (eTup (lCons (eCallB 0 sem__law_take (lCons (eVar 5) (lNil))) (lCons (eCallB 0 sem__law_take (lCons (eVar 5) (lNil))) (lNil))))) (sSeq (sAsg (.one 9) (eComp [13] (.one 13) (iSeq (eVar 1)) (eC (.bool true)) (Tp.e2 dEq (Tp.e2 dIx (eVar 13) (eVar 11)) (eVar 12)))) (sSeq (sAsg (.one 10) (eC (.str "maybe"))) (sSeq (sIf (Tp.e2 dEq (eVar 9) (eLst (lNil))) (sAsg (.one 10) (eC (.str "none"))) (sIf (eOr (Tp.e2 dNin (eC (.bool false)) (eVar 9)) (Tp.e2 dNin (eC (.bool true)) (eVar 9))) (sAsg (.one 10) (eIf (Tp.e2 dIx (eVar 9) (eC (.int 0))) (eC (.str "surely")) (eC (.str "never")))) (sNil))) (sSeq (sAsg (.one 2) (eLst (lCons (eCall sem_word (lCons (eVar 5) (lCons (eVar 7) (lCons (eVar 8) (lCons (eVar 11) (lCons (eVar 12) (lNil))))))) (lCons (eCallK sem_word (permL [4, 3, 2, 1, 0]) (lCons (eVar 12) (lCons (eVar 11) (lCons (eVar 8) (lCons (eVar 7) (lCons (eVar 5) (lNil))))))) (lNil))))) (sIf (Tp.e2 dReprNe (eVar 2) (eLst (lCons (eVar 10) (lCons (eVar 10) (lNil))))) (sRet (eC (.bool false))) (sNil)))))))
theorem bodyR_ok {n : Nat} (h1 : 2 ≤ n) (h2 : n ≤ 5) {r : List Int} (p : r.Perm (rI n)) {g : List PyData} (m : Mask r g) {k : PyData} (hk : KOk n k) (t : PyData) (look four : PyData) (s2 s9 s10 s11 s12 s13 : Slot) (B : Bag) : ∃ s2' s9' s10' s11' s12' B',
    bodyR [.bg, .fz (.list ((FT n g k).map tI)), s2, .fz look, .fz four, .fz (.int n), .fz t, .fz (.tuple g), .fz k, s9, s10, s11, s12, s13] B = .nx [.bg, .fz (.list ((FT n g k).map tI)), s2', .fz look, .fz four, .fz (.int n), .fz t, .fz (.tuple g), .fz k, s9', s10', s11', s12', s13] B' := by
  have hn0 : (0 : Int) < n := by omega
  have hn1 : (n : Int) < 1073741824 := by omega
  obtain ⟨a, B1, ea, a0, a1⟩ := takeB_ok (ρ := [.bg, .fz (.list ((FT n g k).map tI)), s2, .fz look, .fz four, .fz (.int n), .fz t, .fz (.tuple g), .fz k, s9, s10, s11, s12, s13]) rfl n hn0 hn1 (e := eVar 5) (fun _ => rfl) B
  obtain ⟨b, B2, eb, b0, b1⟩ := takeB_ok (ρ := [.bg, .fz (.list ((FT n g k).map tI)), s2, .fz look, .fz four, .fz (.int n), .fz t, .fz (.tuple g), .fz k, s9, s10, s11, s12, s13]) rfl n hn0 hn1 (e := eVar 5) (fun _ => rfl) B1
  refine ⟨.fz (.list [wordOf (seenB (FT n g k) a b), wordOf (seenB (FT n g k) a b)]), .fz (.list ((seenB (FT n g k) a b).map PyData.bool)), .fz (wordOf (seenB (FT n g k) a b)), .fz (.int a), .fz (.int b), B2, ?_⟩
  unfold bodyR
  rw [sSeq_nx (sAsg_ok (eTup_ok (lCons_ok ea (lCons_ok eb rfl))) rfl)]
  show sSeq _ _ [.bg, .fz (.list ((FT n g k).map tI)), s2, .fz look, .fz four, .fz (.int n), .fz t, .fz (.tuple g), .fz k, s9, s10, .fz (.int a), .fz (.int b), s13] B2 = _
  have hc : eComp [13] (.one 13) (iSeq (eVar 1)) (eC (.bool true)) (Tp.e2 dEq (Tp.e2 dIx (eVar 13) (eVar 11)) (eVar 12)) [.bg, .fz (.list ((FT n g k).map tI)), s2, .fz look, .fz four, .fz (.int n), .fz t, .fz (.tuple g), .fz k, s9, s10, .fz (.int a), .fz (.int b), s13] B2 = .ok (.list ((seenB (FT n g k) a b).map PyData.bool)) B2 := by
    rw [comp_map tI (fun _ => true) (fun r => .bool (decide (r.getD a.toNat 0 = b))) (xs := FT n g k) (by simp [iSeq, eVar, R.bind, seqOf]) ?_, filter_tt, seenB, List.map_map]
    · rfl
    · intro r hr
      refine ⟨[.bg, .fz (.list ((FT n g k).map tI)), s2, .fz look, .fz four, .fz (.int n), .fz t, .fz (.tuple g), .fz k, s9, s10, .fz (.int a), .fz (.int b), .fz (tI r)], rfl, rfl, fun _ => ?_⟩
      exact e2_ok (e2_ok rfl rfl (ix_ok a0 (by rw [pT_perm h1 h2 (List.mem_filter.mp hr).1]; exact a1))) rfl rfl
  rw [sSeq_nx (sAsg_ok hc rfl)]
  have hw := word_ok h1 h2 p m hk a0 a1 b0 b1 B2
  generalize seenB (FT n g k) a b = bs at hw
  show sSeq _ _ [.bg, .fz (.list ((FT n g k).map tI)), s2, .fz look, .fz four, .fz (.int n), .fz t, .fz (.tuple g), .fz k, .fz (.list (bs.map PyData.bool)), s10, .fz (.int a), .fz (.int b), s13] B2 = _
  rw [sSeq_nx (sAsg_ok rfl rfl)]
  show sSeq _ _ [.bg, .fz (.list ((FT n g k).map tI)), s2, .fz look, .fz four, .fz (.int n), .fz t, .fz (.tuple g), .fz k, .fz (.list (bs.map PyData.bool)), .fz (.str "maybe"), .fz (.int a), .fz (.int b), s13] B2 = _
  rw [sSeq_nx (due_ok bs (e9 := rfl) rfl)]
  show sSeq _ _ [.bg, .fz (.list ((FT n g k).map tI)), s2, .fz look, .fz four, .fz (.int n), .fz t, .fz (.tuple g), .fz k, .fz (.list (bs.map PyData.bool)), .fz (wordOf bs), .fz (.int a), .fz (.int b), s13] B2 = _
  rw [sSeq_nx (sAsg_ok (two_ok (p := permL [4, 3, 2, 1, 0]) rfl rfl rfl hw) rfl)]
  show sIf _ _ _ [.bg, .fz (.list ((FT n g k).map tI)), .fz (.list [wordOf bs, wordOf bs]), .fz look, .fz four, .fz (.int n), .fz t, .fz (.tuple g), .fz k, .fz (.list (bs.map PyData.bool)), .fz (wordOf bs), .fz (.int a), .fz (.int b), s13] B2 = _
  rw [sIfN_f (e2_ok rfl (eLst_ok (lCons_ok rfl (lCons_ok rfl rfl))) (show_word bs))]
theorem loopR {n : Nat} (h1 : 2 ≤ n) (h2 : n ≤ 5) {r : List Int} (p : r.Perm (rI n)) {g : List PyData} (m : Mask r g) {k : PyData} (hk : KOk n k) (t : PyData) (look : PyData) (s13 : Slot) : ∀ (xs : List PyData) (s2 s4 s9 s10 s11 s12 : Slot) (B : Bag), ∃ ρ' B',
    forF (.one 4) bodyR xs [.bg, .fz (.list ((FT n g k).map tI)), s2, .fz look, s4, .fz (.int n), .fz t, .fz (.tuple g), .fz k, s9, s10, s11, s12, s13] B = .nx ρ' B'
  | [], s2, s4, s9, s10, s11, s12, B => ⟨_, B, rfl⟩
  | x :: xs, s2, s4, s9, s10, s11, s12, B => by
    obtain ⟨a2, a9, a10, a11, a12, B1, e⟩ := bodyR_ok h1 h2 p m hk t look x s2 s9 s10 s11 s12 s13 B
    obtain ⟨ρ', B', e2⟩ := loopR h1 h2 p m hk t look s13 xs a2 (.fz x) a9 a10 a11 a12 B1
    exact ⟨ρ', B', (forF_cons rfl e).trans e2⟩
theorem len_pT' : ∀ n, n ≤ 5 → (pT n).length < 1000 := by decide +kernel
theorem right : ∀ B, ∃ B', sem__law_right [] B = .ok (.bool true) B' := fun B => by
  obtain ⟨n, r, B1, h1, h2, p, eD⟩ := drawn_ok B
  obtain ⟨g, B2, eS, m⟩ := sight_ok r B1
  have hr : r ∈ pT n := mem_pT h1 h2 p
  have hgl : g.length = n := by rw [mask_len m, p.length_eq]; simp [rI]
  -- the kind
  have hK : ∃ k B3, KOk n k ∧ eIf (Tp.e2 dEq (eCallB 0 sem__law_take (lCons (eC (.int 2)) (lNil))) (eC (.int 0))) (eCall sem__law_kind (lCons (eVar 6) (lNil))) (eC .none) [.bg, .no, .no, .no, .no, .fz (.int n), .fz (tI r), .no, .no, .no, .no, .no, .no, .no] B2 = .ok k B3 := by
    obtain ⟨b, B3, e⟩ := zero_ok (ρ := [.bg, .no, .no, .no, .no, .fz (.int n), .fz (tI r), .no, .no, .no, .no, .no, .no, .no]) rfl 2 (by decide) (by decide) B2
    cases b with
    | true => exact ⟨kd r, B3, .inr ⟨r, hr, rfl⟩, (eIf_t e).trans ((call_ok rfl).trans (kind_at h1 h2 hr B3).2.1)⟩
    | false => exact ⟨.none, B3, .inl rfl, (eIf_f e).trans rfl⟩
  obtain ⟨k0, B3, hk0, eK⟩ := hK
  have hK2 : ∃ k B4, KOk n k ∧ sIf (Tp.e2 dEq (eCallB 0 sem__law_take (lCons (eC (.int 4)) (lNil))) (eC (.int 0))) (sAsg (.one 8) (eCall sem__law_kind (lCons (eCallB 0 sem__law_other (lCons (eVar 5) (lNil))) (lNil)))) (sNil) [.bg, .no, .no, .no, .no, .fz (.int n), .fz (tI r), .fz (.tuple g), .fz k0, .no, .no, .no, .no, .no] B3 = .nx [.bg, .no, .no, .no, .no, .fz (.int n), .fz (tI r), .fz (.tuple g), .fz k, .no, .no, .no, .no, .no] B4 := by
    obtain ⟨b, B4, e⟩ := zero_ok (ρ := [.bg, .no, .no, .no, .no, .fz (.int n), .fz (tI r), .fz (.tuple g), .fz k0, .no, .no, .no, .no, .no]) rfl 4 (by decide) (by decide) B3
    cases b with
    | false => exact ⟨k0, B4, hk0, sIfN_f e⟩
    | true =>
      obtain ⟨r', B5, e5, p'⟩ := other_ok n (by omega) B4
      have hr' : r' ∈ pT n := mem_pT h1 h2 p'
      refine ⟨kd r', B5, .inr ⟨r', hr', rfl⟩, (sIf_t e).trans (sAsg_ok ((call_ok (lCons_ok ?_ rfl)).trans (kind_at h1 h2 hr' B5).2.1) rfl)⟩
      show eCall sem__law_other _ _ _ = _
      exact (call_ok rfl).trans e5
  obtain ⟨k, B4, hk, eK2⟩ := hK2
  have hF := law_fits_ok h1 h2 (mask_NI m) (g := g) (by omega) hk B4
  have hC := count_ok h1 h2 p m hk B4
  have hLL := look_ok h1 h2 p m hk B4
  have hB := law_look_ok (rs := FT n g k) (n := n) (fun r hr => pT_perm h1 h2 (List.mem_filter.mp hr).1) (fun r hr => tab_in n h2 r (List.mem_filter.mp hr).1) (Nat.lt_of_le_of_lt (List.length_filter_le _ _) (len_pT' n h2)) hgl (by omega) B4
  have hlen : (FT n g k).length < 1000 := Nat.lt_of_le_of_lt (List.length_filter_le _ _) (len_pT' n h2)
  generalize hrs : FT n g k = rs at hF hC hLL hB hlen
  obtain ⟨ρ', B5, eR⟩ := loopR h1 h2 p m hk (tI r) (bestOf rs g) .no (rngI 0 4) (.fz (.list [.int (rs.length : Nat), .int (rs.length : Nat)])) .no .no .no .no .no B4
  rw [hrs] at eR
  have eD' : eCallB 0 sem__law_drawn (lCons (eC (.int 2)) (lCons (eC (.int 5)) (lNil))) [.bg, .no, .no, .no, .no, .no, .no, .no, .no, .no, .no, .no, .no, .no] B = .ok (.tuple [.int n, tI r]) B1 := by
    show eCall sem__law_drawn _ _ _ = _
    exact (call_ok rfl).trans eD
  have eS' : eCallB 0 sem__law_sight (lCons (eVar 6) (lNil)) [.bg, .no, .no, .no, .no, .fz (.int n), .fz (tI r), .no, .no, .no, .no, .no, .no, .no] B1 = .ok (.tuple g) B2 := by
    show eCall sem__law_sight _ _ _ = _
    exact (call_ok rfl).trans eS
  refine ⟨B5, fn_ret rfl ?_⟩
  show sSeq _ _ [.bg, .no, .no, .no, .no, .no, .no, .no, .no, .no, .no, .no, .no, .no] B = _
  rw [sSeq_nx (sAsg_ok eD' rfl)]
  show sSeq _ _ [.bg, .no, .no, .no, .no, .fz (.int n), .fz (tI r), .no, .no, .no, .no, .no, .no, .no] B1 = _
  rw [sSeq_nx (sPar_ok eS' eK)]
  show sSeq _ _ [.bg, .no, .no, .no, .no, .fz (.int n), .fz (tI r), .fz (.tuple g), .fz k0, .no, .no, .no, .no, .no] B3 = _
  rw [sSeq_nx eK2]
  rw [sSeq_nx (sAsg_ok ((call_ok rfl).trans hF) rfl)]
  show sSeq _ _ [.bg, .fz (.list (rs.map tI)), .no, .no, .no, .fz (.int n), .fz (tI r), .fz (.tuple g), .fz k, .no, .no, .no, .no, .no] B4 = _
  rw [sSeq_nx (sAsg_ok (two_ok (p := permL [2, 1, 0]) rfl rfl rfl hC) rfl)]
  show sSeq _ _ [.bg, .fz (.list (rs.map tI)), .fz (.list [.int (rs.length : Nat), .int (rs.length : Nat)]), .no, .no, .fz (.int n), .fz (tI r), .fz (.tuple g), .fz k, .no, .no, .no, .no, .no] B4 = _
  have hM : Tp.e2 dMul (eLst (lCons (Tp.e1 dLen (eVar 1)) (lNil))) (eC (.int 2)) [.bg, .fz (.list (rs.map tI)), .fz (.list [.int (rs.length : Nat), .int (rs.length : Nat)]), .no, .no, .fz (.int n), .fz (tI r), .fz (.tuple g), .fz k, .no, .no, .no, .no, .no] B4 = .ok (.list [.int (rs.length : Nat), .int (rs.length : Nat)]) B4 := by
    refine e2_ok (x := .list [.int (rs.length : Nat)]) (eLst_ok (lCons_ok (e1_ok (op := dLen) (v := .int (rs.length : Nat)) rfl ?_) rfl)) rfl ?_
    · simp [dLen]
    · simp only [dMul]
      rw [if_pos (by simp [lim])]
      rfl
  rw [sSeq_nx (sIfN_f (e2_ok rfl hM (show_ints _ (by omega))))]
  rw [sSeq_nx (sAsg_ok ((call_ok rfl).trans hB) rfl)]
  show sSeq _ _ [.bg, .fz (.list (rs.map tI)), .fz (.list [.int (rs.length : Nat), .int (rs.length : Nat)]), .fz (bestOf rs g), .no, .fz (.int n), .fz (tI r), .fz (.tuple g), .fz k, .no, .no, .no, .no, .no] B4 = _
  rw [sSeq_nx (sIfN_f (e2_ok (two_ok (p := permL [2, 1, 0]) rfl rfl rfl hLL) (eLst_ok (lCons_ok rfl (lCons_ok rfl rfl))) (show_best rs (by omega))))]
  have hsrc : iRng1 (eC (.int 4)) [.bg, .fz (.list (rs.map tI)), .fz (.list [.int (rs.length : Nat), .int (rs.length : Nat)]), .fz (bestOf rs g), .no, .fz (.int n), .fz (tI r), .fz (.tuple g), .fz k, .no, .no, .no, .no, .no] B4 = .ok (rngI 0 4) B4 := rfl
  show sSeq (sFor (.one 4) _ bodyR) _ _ B4 = _
  rw [sSeq_nx ((sFor_ok hsrc).trans eR)]
  exact sRet_ok rfl
end Tp

set_option Elab.async false
set_option linter.all false
set_option maxRecDepth 100000
set_option maxHeartbeats 0
namespace Tp
open PySem PySem.Spec PyProof.Rows L2
def ex0 : List (Str × Value) := [("permutations", .type "itertools.permutations")]
abbrev Rw : PySem.W.OpenRow := PySem.W.OpenLaw.row PySem.Challenge.rw_turnproducts_k60_whole_sights
abbrev hk0 : PySem.W.Hook := hookX 4 ex0 fa0 fn0
def ob0 (s : PySem.W.SharedT) : AlX := obsX 4 ex0 fa0 fn0 (HandSHeadRun.getT s)
theorem ob0_eq (s : PySem.W.SharedT) : ob0 s = hk0.obs s.abs := obsX_eq (HandSHeadRun.getT_eq s)
def loose0 : List Str := ["permutations", "TurnError", "InvalidNumber", "InvalidKind", "InvalidSight", "is_whole", "is_between", "is_tuple_of", "FEWEST_SEATS", "MOST_SEATS", "is_seats", "check_seats", "is_seat", "check_seat", "is_kind", "ring_at", "rings_by", "kind_by", "turns_by", "SURELY", "MAYBE", "NEVER", "NONE", "does_fit", "fitting_by", "word_by", "best_look_by", "is_sight", "is_told_kind", "check_seen"]
def loose1 : List Str := ["count_fitting", "word", "best_look", "_law_bag", "_law_take", "_law_turns", "_law_rings", "_law_kind", "_law_drawn", "_law_other", "_law_sight", "_law_fits", "_law_best_look", "_law_right"]
def loose : List Str := loose0 ++ loose1
theorem run0 (w : World) : HandSHeadRun.RunEqI Rw (PySem.W.view Rw.prog [0, 49]) hk0 ob0 9000 loose w := by
  unfold HandSHeadRun.RunEqI
  kernel_rfl
theorem facts0 {P : Program} {w : World} {K : PySem.W.Frag} {h : Heap} {mg : Str → Option Value} {f : Addr} (right : ∀ B, ∃ B', sem__law_right [] B = .ok (.bool true) B') (X : K.In h) (N : h.Ns mainGlobals mg) (hfa : mg "law" = some (.ref f)) (e : exB ex0 K = true) (c : He.SaysD fa0 fn0 K) :
    ∃ fd : FuncData, (∀ (s : Shared) (u : Value), BindsTo s fd ⟨[u], []⟩ [(Str.ofString "script", u)]) ∧ ∀ base : Heap, K.In base → base.Ns mainGlobals mg → FnG P w K mg base 8 f fd [Str.ofString "script"] (spLaw K) := by
  have C : Cx0 K mg := { says := c, at_ := ⟨h, X, N⟩, gi_perm := exB_at e X N 0 }
  obtain ⟨fd, D⟩ := C.df 33 (d := dd 49 "law") rfl
  obtain ⟨fb, Db⟩ := C.df 22 (d := dd 38 "_law_bag") rfl
  have ea := hfa.symm.trans (C.gd 33)
  cases ea
  have b := FunD.bindsA (ps := [Str.ofString "script"]) D fun _ _ _ _ _ _ us hl => match us, hl with | [_], _ => rfl
  exact ⟨fd, fun s v => b s [v] rfl, fun base _ _ => ok_law C right D Db⟩
end Tp
open PySem PySem.W PySem.Calls PyProof.Rows in
theorem PySem.Challenge.cw_turnproducts_k60_whole_sights_holds : PySem.Challenge.rw_turnproducts_k60_whole_sights.Holds := by
  w_on; o_law
  refine HandSHeadRun.head_imp (r := Tp.Rw) (q := view Tp.Rw.prog [0, 49]) (H := Tp.hk0) (ob := Tp.ob0) (M := 9000) (loose := Tp.loose) (d := HandSHeadRun.topDef Tp.Rw.prog 49) (kwd := []) Tp.ob0_eq
    Tp.run0 (by kernel_rfl) (by kernel_rfl) (by kernel_rfl) (by rfl) (by first | assumption | decide +kernel) (by decide +kernel) ⟨rfl, rfl, rfl, rfl, rfl, by decide +kernel⟩ ?hw ?hc
  case hw => w_witness2
  case hc =>
    refine Att.attach_call (l := PySem.Challenge.rw_turnproducts_k60_whole_sights) (n := 63) rfl (by kernel_rfl) fun w s₀ s₁ mg mb fa o pm cd doc a vs ns G Y ho hd hcd hmg hobj hints hlen hg => ?_
    obtain ⟨K, KX, e, c⟩ := (show ∃ K : PySem.W.Frag, K.In s₁.heap ∧ Tp.exB Tp.ex0 K = true ∧ He.SaysD Tp.fa0 Tp.fn0 K from Y)
    have hl : mg ("law" : PySem.Str) = some (.ref fa) := by
      have e : (HandSHeadRun.topDef Tp.Rw.prog 49).name = ("law" : PySem.Str) := by kernel_rfl
      rw [← e]
      exact hmg
    obtain ⟨fd, hb, hF⟩ := Tp.facts0 (P := (PySem.Challenge.rw_turnproducts_k60_whole_sights).prog) (w := w) Tp.right KX G.T.g hl e c
    exact Tp.top_call KX G.T.g G.T.b G.T.builtins G.T.nolimit hg hobj hints hlen ⟨rfl, by decide, by decide⟩ hF hb
