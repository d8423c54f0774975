import PyProof.Rows.All
import Wide.All
import OpenK.AllK
import Wide.FinOn
import HandS.ForMost
import HandS.Exc
import HandS.WordsExc
import KE.KeyNested
import KE.SortData
import HandS.Flow
import HandS.Defaults
import HandS.Iter
import KE.GoesNew
import KE.GoesMore
import KE.GoesZip
import KE.GoesNewDict
import HandS.List
import HandS.Call
import KE.DataEq
import KE.DataCmp
import KE.DataAny
import KE.DatumOrd
import KE.SortKeyHeap
import HandS.TupMul
import HandS.TupAny
import HandS.Text
import HandS.Small
import HandS.IsInst
import HandS.RaiseMore
import KE.KTupSum
import KE.KDictCopyH
import HandS.TupLen
import HandS.Style
import HandS.Star
import HandS.DictComp
import KE.KDictKeyed
import HandS.Conv
import HandS.SortKw
import KE.KDictSum
import KE.KSortKey
import KE.SortKeyed
import HandS.Comp
import HandS.Strs
import HandS.SetFor
import HandS.Set
import PyProof.SumWalkG
import OpenK.KMore
import HandS.Ends
import HandS.HeadEnd
import HandS.HeadHook1
import HandS.HeadHook2
import KE.KStateDown
import Lean
import HandS.Head0
import HandS.Head1
import HandS.Head2
import PySem.Challenge.RW_everyswap_k31_whole_what_lies_outside_of
section
/-! PV0: plain values, stores, and what expressions and statements do to them; no model in sight. -/
set_option linter.all false
set_option Elab.async false
namespace PV

/-- the greatest length of a list -/
abbrev Sz : Nat := 16777216

/-- a value that never changes -/
inductive A where
  | non | bl (b : Bool) | int (i : Int) | str (s : List Nat)
  | tup (l : List A) | lst (l : List A) | dct (l : List (A × A)) | set (l : List A)
  | ins (c : Nat) (l : List (Nat × A))
  | fn (f : Nat) | cls (c : Nat) | ty (t : Nat)
  deriving Inhabited

/-- what a name holds: a value, a thing that changes, a lambda with what it has caught -/
inductive W where
  | v (a : A) | cel (n : Nat) | lam (k : Nat) (l : List W)
  deriving Inhabited

/-- a thing that changes -/
inductive Cell where
  | lst (l : List A) | dct (l : List (A × A)) | ins (c : Nat) (l : List (Nat × W))
  deriving Inhabited

abbrev Env := List (Option W)
abbrev Sto := List Cell

inductive Res (α : Type) where
  | ok (a : α) (st : Sto) | exc (c : Nat) (fs : List (Nat × A)) (st : Sto) | bad
def Res.bind {α β : Type} (r : Res α) (f : α → Sto → Res β) : Res β := match r with
  | .ok a st => f a st
  | .exc c fs st => .exc c fs st
  | .bad => .bad
def Res.of {α : Type} (o : Option α) (st : Sto) : Res α := match o with
  | some a => .ok a st
  | none => .bad
@[simp] theorem bind_ok {α β : Type} (a : α) (st : Sto) (f : α → Sto → Res β) : (Res.ok a st).bind f = f a st := rfl
@[simp] theorem bind_exc {α β : Type} (c) (fs) (st : Sto) (f : α → Sto → Res β) : (Res.exc c fs st : Res α).bind f = .exc c fs st := rfl
@[simp] theorem bind_bad {α β : Type} (f : α → Sto → Res β) : (Res.bad : Res α).bind f = .bad := rfl
@[simp] theorem of_some {α : Type} (a : α) (st : Sto) : Res.of (some a) st = .ok a st := rfl
@[simp] theorem of_none {α : Type} (st : Sto) : (Res.of none st : Res α) = .bad := rfl

inductive SRes where
  | nx (e : Env) (st : Sto) | rt (a : W) (st : Sto) | bk (e : Env) (st : Sto) | ct (e : Env) (st : Sto)
  | exc (c : Nat) (fs : List (Nat × A)) (e : Env) (st : Sto) | bad
def Res.to {α : Type} (r : Res α) (e : Env) (f : α → Sto → SRes) : SRes := match r with
  | .ok a st => f a st
  | .exc c fs st => .exc c fs e st
  | .bad => .bad
@[simp] theorem to_ok {α : Type} (a : α) (st : Sto) (e) (f : α → Sto → SRes) : (Res.ok a st).to e f = f a st := rfl
@[simp] theorem to_exc {α : Type} (c) (fs) (st : Sto) (e) (f : α → Sto → SRes) : (Res.exc c fs st : Res α).to e f = .exc c fs e st := rfl
@[simp] theorem to_bad {α : Type} (e) (f : α → Sto → SRes) : (Res.bad : Res α).to e f = .bad := rfl

/-- what calls do: a def's number, its arguments -/
abbrev Orc := Nat → List W → Sto → Res W
abbrev Ex := Orc → Env → Sto → Res W
abbrev Te := Orc → Env → Sto → Res Bool
abbrev Es := Orc → Env → Sto → Res (List W)
abbrev Stm := Orc → Env → Sto → SRes

/-! ### values -/
mutual
def A.eqv : A → A → Bool
  | .non, .non => true
  | .bl b, .bl c => b == c
  | .bl b, .int j => (if b then (1 : Int) else 0) == j
  | .int i, .bl c => i == (if c then (1 : Int) else 0)
  | .int i, .int j => i == j
  | .str s, .str t => s == t
  | .tup l, .tup m => A.eqvL l m
  | .lst l, .lst m => A.eqvL l m
  | _, _ => false
termination_by structural x => x
def A.eqvL : List A → List A → Bool
  | [], [] => true
  | x :: l, y :: m => A.eqv x y && A.eqvL l m
  | _, _ => false
termination_by structural x => x
end
mutual
/-- data: None, truths, integers, texts, lists, tuples -/
def A.data : A → Bool
  | .non => true
  | .bl _ => true
  | .int _ => true
  | .str _ => true
  | .tup l => A.dataL l
  | .lst l => A.dataL l
  | _ => false
def A.dataL : List A → Bool
  | [] => true
  | x :: l => A.data x && A.dataL l
end
mutual
def A.dep : A → Nat
  | .tup l => A.depL l + 1
  | .lst l => A.depL l + 1
  | _ => 0
def A.depL : List A → Nat
  | [] => 0
  | x :: l => max (A.dep x) (A.depL l)
end
/-! ### order -/
mutual
/-- the two can be compared, place by place -/
def A.alike : A → A → Bool
  | .non, .non => true
  | .bl _, .bl _ => true
  | .int _, .int _ => true
  | .str _, .str _ => true
  | .lst l, .lst m => A.alikeL l m
  | .tup l, .tup m => A.alikeL l m
  | _, _ => false
termination_by structural x => x
def A.alikeL : List A → List A → Bool
  | x :: l, y :: m => A.alike x y && A.alikeL l m
  | [], _ => true
  | _ :: _, [] => true
termination_by structural x => x
end
mutual
/-- a datum as a row of signs -/
def A.toks : A → List (Int ⊕ List Nat)
  | .bl b => [.inl (if b = true then 1 else 0)]
  | .int i => [.inl i]
  | .str s => [.inr s]
  | .lst l => A.toksL l
  | .tup l => A.toksL l
  | _ => []
termination_by structural x => x
def A.toksL : List A → List (Int ⊕ List Nat)
  | [] => [.inl 0]
  | x :: l => .inl 1 :: (A.toks x ++ A.toksL l)
termination_by structural x => x
end
def itLt : Int ⊕ List Nat → Int ⊕ List Nat → Bool
  | .inl a, .inl b => decide (a < b)
  | .inl _, .inr _ => true
  | .inr _, .inl _ => false
  | .inr a, .inr b => decide (a < b)
def lexS : List (Int ⊕ List Nat) → List (Int ⊕ List Nat) → Bool
  | [], [] => false
  | [], _ :: _ => true
  | _ :: _, [] => false
  | x :: r, y :: t => itLt x y || (!itLt y x && lexS r t)
def A.lt (a b : A) : Bool := lexS a.toks b.toks
/-- ascending, as it stood among equals -/
def sortA (l : List A) : List A := l.mergeSort fun a b => !A.lt b a
/-- the value that is read -/
def vw (st : Sto) : W → Option A
  | .v a => some a
  | .cel n => match st[n]? with
    | some (.lst l) => some (.lst l)
    | some (.dct l) => some (.dct l)
    | _ => none
  | .lam _ _ => none
def W.val : W → Option A
  | .v a => some a
  | _ => none
def vals : List W → Option (List A)
  | [] => some []
  | w :: l => match w.val, vals l with
    | some a, some m => some (a :: m)
    | _, _ => none
def vws (st : Sto) : List W → Option (List A)
  | [] => some []
  | w :: l => match vw st w, vws st l with
    | some a, some m => some (a :: m)
    | _, _ => none
def A.truth : A → Option Bool
  | .non => some false
  | .bl b => some b
  | .int i => some (i != 0)
  | .str s => if s.length ≤ Sz then some (s != []) else none
  | .tup l => some (!l.isEmpty)
  | .lst l => some (!l.isEmpty)
  | _ => none
def A.seq : A → Option (List A)
  | .tup l => some l
  | .lst l => some l
  | _ => none
@[simp] theorem vw_v (st : Sto) (a : A) : vw st (.v a) = some a := rfl
@[simp] theorem val_v (a : A) : (W.v a).val = some a := rfl
@[simp] theorem vals_nil : vals [] = some [] := rfl
@[simp] theorem vals_cons (a : A) (l : List W) : vals (.v a :: l) = (vals l).map (a :: ·) := by
  show (match some a, vals l with | some a, some m => some (a :: m) | _, _ => none) = _
  cases vals l <;> rfl
@[simp] theorem vws_nil (st : Sto) : vws st [] = some [] := rfl
theorem vws_cons (st : Sto) (w : W) (l : List W) : vws st (w :: l) = (vw st w).bind fun a => (vws st l).map (a :: ·) := by
  show (match vw st w, vws st l with | some a, some m => some (a :: m) | _, _ => none) = _
  cases vw st w <;> cases vws st l <;> rfl
theorem vals_map_v : ∀ l : List A, vals (l.map W.v) = some l
  | [] => rfl
  | a :: l => by simp [vals_map_v l]

/-! ### the same value -/
mutual
def A.same : A → A → Bool
  | .non, .non => true
  | .bl b, .bl c => b == c
  | .int i, .int j => i == j
  | .str s, .str t => s == t
  | .tup l, .tup m => A.sameL l m
  | .lst l, .lst m => A.sameL l m
  | .dct l, .dct m => A.sameD l m
  | .set l, .set m => A.sameL l m
  | .ins c l, .ins d m => c == d && A.sameF l m
  | .fn f, .fn g => f == g
  | .cls f, .cls g => f == g
  | .ty f, .ty g => f == g
  | _, _ => false
termination_by structural x => x
def A.sameL : List A → List A → Bool
  | [], [] => true
  | x :: l, y :: m => A.same x y && A.sameL l m
  | _, _ => false
termination_by structural x => x
def A.sameD : List (A × A) → List (A × A) → Bool
  | [], [] => true
  | p :: l, q :: m => A.sameP p q && A.sameD l m
  | _, _ => false
termination_by structural x => x
def A.sameP : A × A → A × A → Bool
  | (a, b), (c, d) => A.same a c && A.same b d
termination_by structural x => x
def A.sameF : List (Nat × A) → List (Nat × A) → Bool
  | [], [] => true
  | p :: l, q :: m => A.sameQ p q && A.sameF l m
  | _, _ => false
termination_by structural x => x
def A.sameQ : Nat × A → Nat × A → Bool
  | (a, b), (c, d) => a == c && A.same b d
termination_by structural x => x
end
mutual
theorem A.same_eq : ∀ {a b : A}, A.same a b = true → a = b
  | .non, b, h => by cases b <;> simp_all [A.same]
  | .bl _, b, h => by cases b <;> simp_all [A.same]
  | .int _, b, h => by cases b <;> simp_all [A.same]
  | .str _, b, h => by cases b <;> simp_all [A.same]
  | .tup l, b, h => by
    cases b <;> simp only [A.same] at h <;> first | cases h | rw [A.sameL_eq h]
  | .lst l, b, h => by
    cases b <;> simp only [A.same] at h <;> first | cases h | rw [A.sameL_eq h]
  | .dct l, b, h => by
    cases b <;> simp only [A.same] at h <;> first | cases h | rw [A.sameD_eq h]
  | .set l, b, h => by
    cases b <;> simp only [A.same] at h <;> first | cases h | rw [A.sameL_eq h]
  | .ins c l, b, h => by
    cases b <;> simp only [A.same] at h <;> first | cases h | (simp only [Bool.and_eq_true, beq_iff_eq] at h; rw [A.sameF_eq h.2, h.1])
  | .fn _, b, h => by cases b <;> simp_all [A.same]
  | .cls _, b, h => by cases b <;> simp_all [A.same]
  | .ty _, b, h => by cases b <;> simp_all [A.same]
theorem A.sameL_eq : ∀ {a b : List A}, A.sameL a b = true → a = b
  | [], b, h => by cases b <;> simp_all [A.sameL]
  | x :: l, b, h => by
    cases b with
    | nil => simp [A.sameL] at h
    | cons y m =>
      simp only [A.sameL, Bool.and_eq_true] at h
      rw [A.same_eq h.1, A.sameL_eq h.2]
theorem A.sameD_eq : ∀ {a b : List (A × A)}, A.sameD a b = true → a = b
  | [], b, h => by cases b <;> simp_all [A.sameD]
  | x :: l, b, h => by
    cases b with
    | nil => simp [A.sameD] at h
    | cons y m =>
      simp only [A.sameD, Bool.and_eq_true] at h
      rw [A.sameP_eq h.1, A.sameD_eq h.2]
theorem A.sameP_eq : ∀ {a b : A × A}, A.sameP a b = true → a = b
  | (a, b), (c, d), h => by
    simp only [A.sameP, Bool.and_eq_true] at h
    rw [A.same_eq h.1, A.same_eq h.2]
theorem A.sameF_eq : ∀ {a b : List (Nat × A)}, A.sameF a b = true → a = b
  | [], b, h => by cases b <;> simp_all [A.sameF]
  | x :: l, b, h => by
    cases b with
    | nil => simp [A.sameF] at h
    | cons y m =>
      simp only [A.sameF, Bool.and_eq_true] at h
      rw [A.sameQ_eq h.1, A.sameF_eq h.2]
theorem A.sameQ_eq : ∀ {a b : Nat × A}, A.sameQ a b = true → a = b
  | (a, b), (c, d), h => by
    simp only [A.sameQ, Bool.and_eq_true, beq_iff_eq] at h
    rw [h.1, A.same_eq h.2]
end
mutual
@[simp] theorem A.same_refl : ∀ a : A, A.same a a = true
  | .non => rfl
  | .bl b => by simp [A.same]
  | .int b => by simp [A.same]
  | .str b => by simp [A.same]
  | .tup l => A.sameL_refl l
  | .lst l => A.sameL_refl l
  | .dct l => A.sameD_refl l
  | .set l => A.sameL_refl l
  | .ins c l => by simp [A.same, A.sameF_refl l]
  | .fn f => by simp [A.same]
  | .cls f => by simp [A.same]
  | .ty f => by simp [A.same]
@[simp] theorem A.sameL_refl : ∀ a : List A, A.sameL a a = true
  | [] => rfl
  | x :: l => by simp [A.sameL, A.same_refl x, A.sameL_refl l]
theorem A.sameD_refl : ∀ a : List (A × A), A.sameD a a = true
  | [] => rfl
  | x :: l => by simp [A.sameD, A.sameP_refl x, A.sameD_refl l]
theorem A.sameP_refl : ∀ a : A × A, A.sameP a a = true
  | (a, b) => by simp [A.sameP, A.same_refl a, A.same_refl b]
theorem A.sameF_refl : ∀ a : List (Nat × A), A.sameF a a = true
  | [] => rfl
  | x :: l => by simp [A.sameF, A.sameQ_refl x, A.sameF_refl l]
theorem A.sameQ_refl : ∀ a : Nat × A, A.sameQ a a = true
  | (a, b) => by simp [A.sameQ, A.same_refl b]
end

/-! ### what is walked -/
/-- the items of a list, a tuple; a list that changes has to stay -/
def srcq (st : Sto) : W → Option (List A × (Sto → Bool))
  | .v (.tup l) => some (l, fun _ => true)
  | .v (.lst l) => some (l, fun _ => true)
  | .cel n => match st[n]? with
    | some (.lst l) => some (l, fun st' => match st'[n]? with
      | some (.lst l') => A.sameL l l'
      | _ => false)
    | _ => none
  | _ => none
/-- .. of a text, of a dict's keys too -/
def src (st : Sto) : W → Option (List A × (Sto → Bool))
  | .v (.str s) => some (s.map fun c => .str [c], fun _ => true)
  | .v (.dct l) => some (l.map (·.1), fun _ => true)
  | w => srcq st w
def itms (o : Option (List A × (Sto → Bool))) (st : Sto) : Res (List A × (Sto → Bool)) := match o with
  | some p => if p.1.length ≤ Sz then .ok p st else .bad
  | none => .bad
def itSeq (x : Ex) : Orc → Env → Sto → Res (List A × (Sto → Bool)) := fun O e st => (x O e st).bind fun w st1 => itms (src st1 w) st1
def small (i : Int) : Bool := decide (-(2 ^ 62) ≤ i) && decide (i < 2 ^ 62)
def upTo (lo : Int) (n : Nat) : List A := (List.range n).map fun (k : Nat) => .int (lo + (k : Int))
def rng1 (w : W) (st : Sto) : Option (List A × (Sto → Bool)) := match vw st w with
  | some (.int j) => if small j then some (upTo 0 j.toNat, fun _ => true) else none
  | _ => none
def rng2 (u w : W) (st : Sto) : Option (List A × (Sto → Bool)) := match vw st u, vw st w with
  | some (.int i), some (.int j) => if small i && small j then some (upTo i (j - i).toNat, fun _ => true) else none
  | _, _ => none
def itRng1 (x : Ex) : Orc → Env → Sto → Res (List A × (Sto → Bool)) := fun O e st => (x O e st).bind fun w st1 => itms (rng1 w st1) st1
def itRng2 (x y : Ex) : Orc → Env → Sto → Res (List A × (Sto → Bool)) := fun O e st => (x O e st).bind fun w st1 => (y O e st1).bind fun u st2 => itms (rng2 w u st2) st2
def zip2 (l m : List A) : List A := (l.zip m).map fun p => .tup [p.1, p.2]
def zip3 (l m k : List A) : List A := (l.zip (m.zip k)).map fun p => .tup [p.1, p.2.1, p.2.2]
def zips2 (u w : W) (st : Sto) : Option (List A × (Sto → Bool)) := match srcq st u, srcq st w with
  | some p, some q => some (zip2 p.1 q.1, fun st' => p.2 st' && q.2 st')
  | _, _ => none
def zips3 (u w x : W) (st : Sto) : Option (List A × (Sto → Bool)) := match srcq st u, srcq st w, srcq st x with
  | some p, some q, some r => some (zip3 p.1 q.1 r.1, fun st' => p.2 st' && q.2 st' && r.2 st')
  | _, _, _ => none
def itZip2 (x y : Ex) : Orc → Env → Sto → Res (List A × (Sto → Bool)) := fun O e st => (x O e st).bind fun w st1 => (y O e st1).bind fun u st2 => itms (zips2 w u st2) st2
def itZip3 (x y z : Ex) : Orc → Env → Sto → Res (List A × (Sto → Bool)) := fun O e st => (x O e st).bind fun w st1 => (y O e st1).bind fun u st2 => (z O e st2).bind fun t st3 => itms (zips3 w u t st3) st3
def enumA (i : Nat) : List A → List A
  | [] => []
  | a :: l => .tup [.int i, a] :: enumA (i + 1) l
def enums (u : W) (st : Sto) : Option (List A × (Sto → Bool)) := match srcq st u with
  | some p => some (enumA 0 p.1, p.2)
  | none => none
def itEnum (x : Ex) : Orc → Env → Sto → Res (List A × (Sto → Bool)) := fun O e st => (x O e st).bind fun w st1 => itms (enums w st1) st1
def itItems (x : Ex) : Orc → Env → Sto → Res (List A × (Sto → Bool)) := fun O e st => (x O e st).bind fun w st1 => match w with
  | .v (.dct l) => itms (some (l.map fun p => .tup [p.1, p.2], fun _ => true)) st1
  | _ => .bad

/-! ### expressions -/
def eVar (i : Nat) : Ex := fun _ e st => match e[i]? with
  | some (some a) => .ok a st
  | _ => .bad
def eCon (a : A) : Ex := fun _ _ st => .ok (.v a) st
def ofV (o : Option A) (st : Sto) : Res W := match o with
  | some a => .ok (.v a) st
  | none => .bad
@[simp] theorem ofV_some (a : A) (st : Sto) : ofV (some a) st = .ok (.v a) st := rfl
@[simp] theorem ofV_none (st : Sto) : ofV none st = .bad := rfl
/-- an operation on one value, on two, on several -/
def op1 (f : A → Option A) (w : W) (st : Sto) : Res W := ofV ((vw st w).bind f) st
def op2 (f : A → A → Option A) (w u : W) (st : Sto) : Res W := ofV ((vw st w).bind fun a => (vw st u).bind (f a)) st
def opL (f : List A → Option A) (l : List W) (st : Sto) : Res W := ofV ((vws st l).bind f) st
def eOp1 (f : A → Option A) (x : Ex) : Ex := fun O e st => (x O e st).bind fun w st1 => op1 f w st1
def eOp2 (f : A → A → Option A) (x y : Ex) : Ex := fun O e st => (x O e st).bind fun w st1 => (y O e st1).bind fun u st2 => op2 f w u st2
def esNil : Es := fun _ _ st => .ok [] st
def esCons (x : Ex) (xs : Es) : Es := fun O e st => (x O e st).bind fun a st1 => (xs O e st1).bind fun l st2 => .ok (a :: l) st2
/-- *x within a display -/
def esStar (x : Ex) (xs : Es) : Es := fun O e st => (x O e st).bind fun w st1 => (Res.of ((vw st1 w).bind A.seq) st1).bind fun m st2 => (xs O e st2).bind fun l st3 => .ok (m.map W.v ++ l) st3
def disp (f : List A → A) (l : List W) (st : Sto) : Res W := match vals l with
  | some m => if m.length ≤ Sz then .ok (.v (f m)) st else .bad
  | none => .bad
def eTup (xs : Es) : Ex := fun O e st => (xs O e st).bind fun l st1 => disp .tup l st1
def eLst (xs : Es) : Ex := fun O e st => (xs O e st).bind fun l st1 => disp .lst l st1
def eFn (f : List A → Option A) (xs : Es) : Ex := fun O e st => (xs O e st).bind fun l st1 => opL f l st1
def eCall (f : Nat) (xs : Es) : Ex := fun O e st => (xs O e st).bind fun l st1 => O f l st1
def eIf (t : Te) (x y : Ex) : Ex := fun O e st => (t O e st).bind fun b st1 => if b then x O e st1 else y O e st1
def truthW (w : W) (st : Sto) : Res Bool := Res.of ((vw st w).bind A.truth) st
/-- x and y, x or y as values -/
def eAnd (x y : Ex) : Ex := fun O e st => (x O e st).bind fun a st1 => (truthW a st1).bind fun b st2 => if b then y O e st2 else .ok a st2
def eOr (x y : Ex) : Ex := fun O e st => (x O e st).bind fun a st1 => (truthW a st1).bind fun b st2 => if b then .ok a st2 else y O e st2
def eNot (t : Ex) : Ex := fun O e st => (t O e st).bind fun w st1 => (truthW w st1).bind fun b st2 => .ok (.v (.bl (!b))) st2
/-- tests -/
def tEx (x : Ex) : Te := fun O e st => (x O e st).bind fun a st1 => truthW a st1
def tAnd (x y : Te) : Te := fun O e st => (x O e st).bind fun b st1 => if b then y O e st1 else .ok false st1
def tOr (x y : Te) : Te := fun O e st => (x O e st).bind fun b st1 => if b then .ok true st1 else y O e st1
def tNot (x : Te) : Te := fun O e st => (x O e st).bind fun b st1 => .ok (!b) st1
def tYes : Te := fun _ _ st => .ok true st
/-- a op b op c, truths -/
def boolW (w : W) (st : Sto) : Res Bool := match w with
  | .v (.bl k) => .ok k st
  | _ => .bad
def tChain (f g : A → A → Option A) (x y z : Ex) : Te := fun O e st => (x O e st).bind fun a st1 => (y O e st1).bind fun b st2 => (op2 f a b st2).bind fun r st3 => (boolW r st3).bind fun k st4 =>
  if k then (z O e st4).bind fun c st5 => (op2 g b c st5).bind boolW else .ok false st4
def eTest (t : Te) : Ex := fun O e st => (t O e st).bind fun k st1 => .ok (.v (.bl k)) st1

/-! ### loops -/
/-- the items, and what has to stay as it is while they are walked -/
abbrev It := Orc → Env → Sto → Res (List A × (Sto → Bool))
/-- targets: where a value is stored -/
inductive Tg where
  | slot (i : Nat) | tup (l : List Tg)
mutual
def Tg.put : Tg → A → Env → Option Env
  | .slot i, a, e => some (e.set i (some (.v a)))
  | .tup ts, a, e => match a with
    | .tup l => Tg.puts ts l e
    | _ => none
def Tg.puts : List Tg → List A → Env → Option Env
  | [], [], e => some e
  | t :: ts, a :: l, e => match t.put a e with
    | some e' => Tg.puts ts l e'
    | none => none
  | _, _, _ => none
end
mutual
def Tg.slots : Tg → List Nat
  | .slot i => [i]
  | .tup ts => Tg.slotsL ts
def Tg.slotsL : List Tg → List Nat
  | [] => []
  | t :: ts => t.slots ++ Tg.slotsL ts
end
def wipe (e : Env) (own : List Nat) : Env := own.foldr (fun i e => e.set i none) e

/-- a comprehension's turns; e: the env with the own names wiped -/
def lcGo (O : Orc) (tg : Tg) (t : Te) (x : Ex) (e : Env) (ok : Sto → Bool) : List A → Sto → Res (List A)
  | [], st => .ok [] st
  | a :: l, st => match tg.put a e with
    | none => .bad
    | some e1 => (t O e1 st).bind fun b st1 => if b then (x O e1 st1).bind fun y st2 => (Res.of y.val st2).bind fun y st2 => if ok st2 then (lcGo O tg t x e ok l st2).bind fun ys st3 => .ok (y :: ys) st3 else .bad
      else if ok st1 then lcGo O tg t x e ok l st1 else .bad
/-- no exception leaves -/
def Res.quiet {α : Type} : Res α → Res α
  | .ok a st => .ok a st
  | _ => .bad
@[simp] theorem quiet_ok {α : Type} (a : α) (st : Sto) : (Res.ok a st).quiet = .ok a st := rfl
def eLc (it : It) (tg : Tg) (own : List Nat) (t : Te) (x : Ex) : Ex := fun O e st => (it O e st).bind fun p st1 => if p.2 st1 then (lcGo O tg t x (wipe e own) p.2 p.1 st1).quiet.bind fun ys st2 => .ok (.v (.lst ys)) st2 else .bad

/-! ### statements -/
def sNil : Stm := fun _ e st => .nx e st
def SRes.seq (r : SRes) (f : Env → Sto → SRes) : SRes := match r with
  | .nx e st => f e st
  | r => r
@[simp] theorem seq_nx (e st) (f : Env → Sto → SRes) : (SRes.nx e st).seq f = f e st := rfl
@[simp] theorem seq_rt (a st) (f : Env → Sto → SRes) : (SRes.rt a st).seq f = .rt a st := rfl
@[simp] theorem seq_bk (e st) (f : Env → Sto → SRes) : (SRes.bk e st).seq f = .bk e st := rfl
@[simp] theorem seq_ct (e st) (f : Env → Sto → SRes) : (SRes.ct e st).seq f = .ct e st := rfl
@[simp] theorem seq_exc (c fs e st) (f : Env → Sto → SRes) : (SRes.exc c fs e st).seq f = .exc c fs e st := rfl
@[simp] theorem seq_bad (f : Env → Sto → SRes) : (SRes.bad).seq f = .bad := rfl
def sSeq (a b : Stm) : Stm := fun O e st => (a O e st).seq (b O)
def sPass : Stm := fun _ e st => .nx e st
def sBreak : Stm := fun _ e st => .bk e st
def sCont : Stm := fun _ e st => .ct e st
def sEx (x : Ex) : Stm := fun O e st => (x O e st).to e fun _ st1 => .nx e st1
def sRet (x : Ex) : Stm := fun O e st => (x O e st).to e fun a st1 => .rt a st1
def sRetN : Stm := fun _ _ st => .rt (.v .non) st
def sIf (t : Te) (a b : Stm) : Stm := fun O e st => (t O e st).to e fun k st1 => if k then a O e st1 else b O e st1
def sSet (i : Nat) (x : Ex) : Stm := fun O e st => (x O e st).to e fun w st1 => .nx (e.set i (some w)) st1
def sAsg (tg : Tg) (x : Ex) : Stm := fun O e st => (x O e st).to e fun w st1 => match (vw st1 w).bind fun a => tg.put a e with
  | some e1 => .nx e1 st1
  | none => .bad
/-- a, b = x, y -/
def sPar (i j : Nat) (x y : Ex) : Stm := fun O e st => (x O e st).to e fun a st1 => (y O e st1).to e fun b st2 => .nx ((e.set i (some a)).set j (some b)) st2
/-- a new thing that changes -/
def newCell : A → Option Cell
  | .lst l => some (.lst l)
  | .dct l => some (.dct l)
  | _ => none
def eNew (x : Ex) : Ex := fun O e st => (x O e st).bind fun w st1 => match w.val.bind newCell with
  | some c => .ok (.cel st1.length) (st1 ++ [c])
  | none => .bad
def forGo (O : Orc) (tg : Tg) (body : Stm) (ok : Sto → Bool) : List A → Env → Sto → SRes
  | [], e, st => .nx e st
  | a :: l, e, st => match tg.put a e with
    | none => .bad
    | some e1 => match body O e1 st with
      | .nx e2 st2 => if ok st2 then forGo O tg body ok l e2 st2 else .bad
      | .ct e2 st2 => if ok st2 then forGo O tg body ok l e2 st2 else .bad
      | .bk e2 st2 => .nx e2 st2
      | r => r
def sFor (it : It) (tg : Tg) (body : Stm) : Stm := fun O e st => (it O e st).to e fun p st1 => if p.2 st1 then forGo O tg body p.2 p.1 e st1 else .bad
def whileGo (O : Orc) (t : Te) (body : Stm) : Nat → Env → Sto → SRes
  | 0, _, _ => .bad
  | n + 1, e, st => (t O e st).to e fun k st1 => if k then match body O e st1 with
      | .nx e2 st2 => whileGo O t body n e2 st2
      | .ct e2 st2 => whileGo O t body n e2 st2
      | .bk e2 st2 => .nx e2 st2
      | r => r
    else .nx e st1
/-- the turns of all whiles: enough -/
def sWhile (n : Nat) (t : Te) (body : Stm) : Stm := fun O e st => whileGo O t body n e st

/-! ### calls -/
structure FnD where
  np : Nat
  ns : Nat
  body : Stm
  leaks : Bool := false
/-- what a name that is left behind holds -/
def thaw (st : Sto) (n0 : Nat) : W → Option W
  | .v a => some (.v a)
  | .cel n => if n < n0 then some (.cel n) else match st[n]? with
    | some (.lst l) => some (.v (.lst l))
    | some (.dct l) => some (.v (.dct l))
    | _ => none
  | .lam _ _ => none
/-- the older things do not hold newer ones -/
def oldOnly (n0 : Nat) : Sto → Bool
  | [] => true
  | .ins _ fs :: st => fs.all (fun p => match p.2 with
    | .v _ => true
    | .cel n => decide (n < n0)
    | .lam _ _ => false) && oldOnly n0 st
  | _ :: st => oldOnly n0 st
def leave (n0 : Nat) (w : W) (st : Sto) : Res W := if st.length = n0 then .ok w st else
  if oldOnly n0 (st.take n0) then match thaw st n0 w with
    | some w' => .ok w' (st.take n0)
    | none => .bad
  else .bad
def enter (O : Orc) (fd : FnD) (args : List W) (st : Sto) : Res W :=
  if args.length = fd.np then
    match fd.body O (args.map some ++ List.replicate (fd.ns - fd.np) none) st with
    | .rt w st1 => if fd.leaks then .ok w st1 else leave st.length w st1
    | .nx _ st1 => if fd.leaks then .ok (.v .non) st1 else leave st.length (.v .non) st1
    | .exc c fs _ st1 => if st1.length = st.length then .exc c fs st1 else if oldOnly st.length (st1.take st.length) then .exc c fs (st1.take st.length) else .bad
    | _ => .bad
  else .bad
def run (P : Nat → Option FnD) : Nat → Orc
  | 0 => fun _ _ _ => .bad
  | d + 1 => fun f args st => match P f with
    | some fd => enter (run P d) fd args st
    | none => .bad

/-! ### operators -/
def fits (l : List A) (f : List A → A) : Option A := if l.length ≤ Sz then some (f l) else none
def mulOk (i j : Int) : Bool := decide (-(2 ^ 64) < i) && decide (i < 2 ^ 64) || decide (-(2 ^ 64) < j) && decide (j < 2 ^ 64)
def rep (l : List A) (n : Nat) : List A := (List.replicate n l).flatten
def fAdd : A → A → Option A
  | .int i, .int j => some (.int (i + j))
  | .str s, .str t => if s.length + t.length ≤ Sz then some (.str (s ++ t)) else none
  | .tup l, .tup m => fits (l ++ m) .tup
  | .lst l, .lst m => fits (l ++ m) .lst
  | _, _ => none
def fSub : A → A → Option A
  | .int i, .int j => some (.int (i - j))
  | _, _ => none
def fMul : A → A → Option A
  | .int i, .int j => if mulOk i j then some (.int (i * j)) else none
  | .tup l, .int k => if decide (k ≤ 1000) && decide (-1000 ≤ k) && decide (l.length ≤ 1000) then some (.tup (rep l k.toNat)) else none
  | _, _ => none
def fDiv : A → A → Option A
  | .int i, .int j => if j != 0 && decide (j.natAbs < 1073741824) then some (.int (i.fdiv j)) else none
  | _, _ => none
def fMod : A → A → Option A
  | .int i, .int j => if j != 0 then some (.int (i.fmod j)) else none
  | _, _ => none
def fPow : A → A → Option A
  | .int i, .int j => if decide (0 ≤ j) && decide (j ≤ 1000000) && decide (i.natAbs < 2 ^ 64) then some (.int (i ^ j.toNat)) else none
  | _, _ => none
def fNeg : A → Option A
  | .int i => some (.int (-i))
  | _ => none
def flat (a : A) : Bool := a.data && decide (a.dep ≤ 60)
def fEq (a b : A) : Option A := if flat a && flat b then some (.bl (A.eqv a b)) else none
def fNe (a b : A) : Option A := if flat a && flat b then some (.bl (!A.eqv a b)) else none
def ordd (a b : A) : Bool := A.alike a b && A.alike b a && flat a && flat b && !A.same a .non
def fLt (a b : A) : Option A := if ordd a b then some (.bl (A.lt a b)) else none
def fGt (a b : A) : Option A := if ordd a b then some (.bl (A.lt b a)) else none
def fLe (a b : A) : Option A := if ordd a b then some (.bl (!A.lt b a)) else none
def fGe (a b : A) : Option A := if ordd a b then some (.bl (!A.lt a b)) else none
def fInB (a : A) : A → Option Bool
  | .lst l => if flat a && flat (.lst l) then some (l.any fun x => A.eqv x a) else none
  | .tup l => if flat a && flat (.tup l) then some (l.any fun x => A.eqv x a) else none
  | _ => none
def fIn (a b : A) : Option A := (fInB a b).map .bl
def fNin (a b : A) : Option A := (fInB a b).map fun k => .bl (!k)
def fIsB (a : A) : A → Option Bool
  | .non => some (A.same a .non)
  | _ => none
def fIs (a b : A) : Option A := (fIsB a b).map .bl
def fIsn (a b : A) : Option A := (fIsB a b).map fun k => .bl (!k)

/-! ### built-in functions -/
def intsA : List A → Option (List Int)
  | [] => some []
  | .int i :: l => (intsA l).map (i :: ·)
  | _ :: _ => none
def truth1 : A → Option Bool
  | .tup l => if l.length ≤ Sz then some (!l.isEmpty) else none
  | .lst l => if l.length ≤ Sz then some (!l.isEmpty) else none
  | a => a.truth
def truths : List A → Option (List Bool)
  | [] => some []
  | a :: l => match truth1 a, truths l with
    | some b, some m => some (b :: m)
    | _, _ => none
def strOf (s : String) : List Nat := s.toList.map Char.toNat
def maxI (i : Int) (l : List Int) : Int := l.foldl (fun a y => if a < y then y else a) i
def minI (i : Int) (l : List Int) : Int := l.foldl (fun a y => if y < a then y else a) i
def bLen : List A → Option A
  | [.str s] => if s.length ≤ Sz then some (.int s.length) else none
  | [.tup l] => some (.int l.length)
  | [.lst l] => some (.int l.length)
  | [.dct l] => some (.int l.length)
  | _ => none
def bInt : List A → Option A
  | [.int i] => some (.int i)
  | [.bl b] => some (.int (if b then 1 else 0))
  | _ => none
def bBool : List A → Option A
  | [.int i] => some (.bl (i != 0))
  | [.bl b] => some (.bl b)
  | _ => none
def bAbs : List A → Option A
  | [.int i] => some (.int (if i < 0 then -i else i))
  | _ => none
def bMax : List A → Option A
  | [.int i, .int j] => some (.int (if j > i then j else i))
  | [.lst l] => match intsA l with
    | some (i :: m) => some (.int (maxI i m))
    | _ => none
  | [.tup l] => match intsA l with
    | some (i :: m) => some (.int (maxI i m))
    | _ => none
  | _ => none
def bMin : List A → Option A
  | [.int i, .int j] => some (.int (if j < i then j else i))
  | [.lst l] => match intsA l with
    | some (i :: m) => some (.int (minI i m))
    | _ => none
  | [.tup l] => match intsA l with
    | some (i :: m) => some (.int (minI i m))
    | _ => none
  | _ => none
def bAll : List A → Option A
  | [.lst l] => if flat (.lst l) then (truths l).map fun m => .bl (m.all id) else none
  | [.tup l] => if flat (.tup l) then (truths l).map fun m => .bl (m.all id) else none
  | _ => none
def bAny : List A → Option A
  | [.lst l] => if flat (.lst l) then (truths l).map fun m => .bl (m.any id) else none
  | [.tup l] => if flat (.tup l) then (truths l).map fun m => .bl (m.any id) else none
  | _ => none
def bSum : List A → Option A
  | [.lst l] => (intsA l).map fun m => .int m.sum
  | [.tup l] => (intsA l).map fun m => .int m.sum
  | _ => none
def bTuple : List A → Option A
  | [.lst l] => some (.tup l)
  | [.tup l] => some (.tup l)
  | _ => none
def bList : List A → Option A
  | [.lst l] => some (.lst l)
  | [.tup l] => some (.lst l)
  | _ => none
def bStr : List A → Option A
  | [.int i] => if i.natAbs.log2 < 1920 then some (.str (strOf (toString i))) else none
  | [.str s] => some (.str s)
  | _ => none
/-- what can be sorted -/
def sortable (l : List A) : Bool := l.all (fun a => l.all fun b => A.alike a b) && (l.all (fun a => match a with | .tup (_ :: _) => true | _ => false) || l.all fun a => match a with | .tup _ => false | .non => false | _ => true)
def bSorted : List A → Option A
  | [.lst l] => if flat (.lst l) && sortable l then some (.lst (sortA l)) else none
  | _ => none
/-- types by numbers -/
def A.tag : A → Option Nat
  | .non => some 0
  | .bl _ => some 1
  | .int _ => some 2
  | .str _ => some 3
  | .tup _ => some 4
  | .lst _ => some 5
  | .dct _ => some 6
  | _ => none
def tyLe (a b : Nat) : Bool := a == b || (a == 1 && b == 2)
/-- isinstance: ck: the classes that are known; sub: what stands below what -/
def isi0 (ck : Nat → Bool) (o : Option Nat) (t : A) : Option Bool := match o, t with
  | some a, .ty n => if 1 ≤ n && n ≤ 6 then some (tyLe a n) else none
  | some _, .cls c => if ck c then some false else none
  | _, _ => none
def isi1 (ck : Nat → Bool) (sub : Nat → Nat → Option Bool) (x t : A) : Option Bool := match x with
  | .ins d _ => match t with
    | .cls c => sub d c
    | .ty n => if (1 ≤ n && n ≤ 6) && ck d then some false else none
    | _ => none
  | x => isi0 ck x.tag t
def isiL (ck : Nat → Bool) (sub : Nat → Nat → Option Bool) (x : A) : List A → Option Bool
  | [] => some false
  | t :: l => match isi1 ck sub x t with
    | some true => some true
    | some false => isiL ck sub x l
    | none => none
def bIsi (ck : Nat → Bool) (sub : Nat → Nat → Option Bool) : List A → Option A
  | [x, .tup (t :: ts)] => (isiL ck sub x (t :: ts)).map .bl
  | [x, t] => (isi1 ck sub x t).map .bl
  | _ => none

/-! ### places, slices -/
def ixP (n : Nat) (i : Int) : Option Nat := if 0 ≤ i then (if i < n then some i.toNat else none) else if -(n : Int) ≤ i then some (i + n).toNat else none
def getI {α : Type} (l : List α) (i : Int) : Option α := (ixP l.length i).bind fun j => l[j]?
def fIx : A → A → Option A
  | .lst l, .int i => getI l i
  | .tup l, .int i => getI l i
  | .str s, .int i => if s.length ≤ Sz then (getI s i).map fun c => .str [c] else none
  | _, _ => none
def clip (n d : Nat) : Option Int → Nat
  | none => d
  | some v => if v < 0 then (v + (n : Int)).toNat else min v.toNat n
def cutA {α : Type} (l : List α) (lo hi : Option Int) : List α := (l.drop (clip l.length 0 lo)).take (clip l.length l.length hi - clip l.length 0 lo)
def fSl (a : A) (lo hi : Option Int) : Option A := match a with
  | .lst l => some (.lst (cutA l lo hi))
  | .tup l => some (.tup (cutA l lo hi))
  | .str s => if s.length ≤ Sz then some (.str (cutA s lo hi)) else none
  | _ => none
def partO (x : Option Ex) : Orc → Env → Sto → Res (Option Int) := fun O e st => match x with
  | none => .ok none st
  | some x => (x O e st).bind fun w st1 => match w with
    | .v (.int i) => .ok (some i) st1
    | _ => .bad
def eSl (x : Ex) (lo hi : Option Ex) : Ex := fun O e st => (x O e st).bind fun w st1 => (partO lo O e st1).bind fun l st2 => (partO hi O e st2).bind fun h st3 => ofV ((vw st3 w).bind fun a => fSl a l h) st3
def fRev : A → Option A
  | .lst l => some (.lst l.reverse)
  | _ => none

/-! ### things that change -/
/-- o.m(..) on a list that changes: what it gives, what it is then -/
def mutL (f : List A → List A → Option (A × List A)) (w : W) (l : List W) (st : Sto) : Res W := match w with
  | .cel n => match st[n]? with
    | some (.lst m) => match (vals l).bind (f m) with
      | some (a, m') => if m'.length ≤ Sz then .ok (.v a) (st.set n (.lst m')) else .bad
      | none => .bad
    | _ => .bad
  | _ => .bad
def isLc (w : W) (st : Sto) : Bool := match w with
  | .cel n => match st[n]? with
    | some (.lst _) => true
    | _ => false
  | _ => false
def eMut (f : List A → List A → Option (A × List A)) (x : Ex) (xs : Es) : Ex := fun O e st => (x O e st).bind fun w st1 => if isLc w st1 then (xs O e st1).bind fun l st2 => mutL f w l st2 else .bad
def mAppend (m : List A) : List A → Option (A × List A)
  | [a] => some (.non, m ++ [a])
  | _ => none
def mPop (m : List A) : List A → Option (A × List A)
  | [] => m.getLast?.map fun a => (a, m.dropLast)
  | _ => none
def setI (l : List A) (i : Int) (a : A) : Option (List A) := (ixP l.length i).map fun j => l.set j a
/-- o[i] = e -/
def sSub (x i y : Ex) : Stm := fun O e st => (y O e st).to e fun w st1 => (x O e st1).to e fun u st2 => (i O e st2).to e fun k st3 => match u, k, w with
  | .cel n, .v (.int j), .v a => match st3[n]? with
    | some (.lst m) => match setI m j a with
      | some m' => .nx e (st3.set n (.lst m'))
      | none => .bad
    | _ => .bad
  | _, _, _ => .bad
/-- what is not covered -/
def sBad : Stm := fun _ _ _ => .bad
def eBad : Ex := fun _ _ _ => .bad

/-! ### dicts -/
mutual
/-- what can be a key -/
def A.hk : A → Bool
  | .non => true
  | .bl _ => true
  | .int _ => true
  | .str _ => true
  | .tup l => A.hkL l
  | _ => false
termination_by structural x => x
def A.hkL : List A → Bool
  | [] => true
  | x :: l => A.hk x && A.hkL l
termination_by structural x => x
end
def tupKey (a : A) : Bool := match a with
  | .tup l => A.hkL l && decide (a.dep ≤ 8)
  | _ => false
def dHas (l : List (A × A)) (k : A) : Bool := l.any fun p => A.eqv p.1 k
def dPut (l : List (A × A)) (k v : A) : List (A × A) := if dHas l k then l.map fun p => if A.eqv p.1 k then (p.1, v) else p else l ++ [(k, v)]
def dcGo (O : Orc) (tg : Tg) (t : Te) (x y : Ex) (e : Env) (ok : Sto → Bool) : List A → List (A × A) → Sto → Res (List (A × A))
  | [], acc, st => .ok acc st
  | a :: l, acc, st => match tg.put a e with
    | none => .bad
    | some e1 => (t O e1 st).bind fun b st1 => if b then (x O e1 st1).bind fun k st2 => (Res.of k.val st2).bind fun k st3 => (y O e1 st3).bind fun v st4 => (Res.of v.val st4).bind fun v st5 =>
        if tupKey k && ok st5 then dcGo O tg t x y e ok l (dPut acc k v) st5 else .bad
      else if ok st1 then dcGo O tg t x y e ok l acc st1 else .bad
def eDc (it : It) (tg : Tg) (own : List Nat) (t : Te) (x y : Ex) : Ex := fun O e st => (it O e st).bind fun p st1 => if p.2 st1 then (dcGo O tg t x y (wipe e own) p.2 p.1 [] st1).quiet.bind fun ys st2 => .ok (.v (.dct ys)) st2 else .bad

/-! ### sorted by a key -/
/-- the items of a list, a tuple, a dict -/
def collA : A → Option (List A)
  | .lst l => some l
  | .tup l => some l
  | .dct l => some (l.map (·.1))
  | _ => none
def keysGo (O : Orc) (f : Nat) : List A → Sto → Res (List A)
  | [], st => .ok [] st
  | a :: l, st => (O f [.v a] st).bind fun w st1 => (Res.of w.val st1).bind fun k st2 => (keysGo O f l st2).bind fun ks st3 => .ok (k :: ks) st3
def sortBy (ks l : List A) : List A := ((ks.zip l).mergeSort fun p q => !A.lt q.1 p.1).map (·.2)
def sortK (ks l : List A) (st : Sto) : Res W := if flat (.lst ks) && sortable ks then .ok (.v (.lst (sortBy ks l))) st else .bad
/-- sorted(x, key=f) -/
def eSortK (f : Nat) (x : Ex) : Ex := fun O e st => (x O e st).bind fun w st1 => (Res.of ((vw st1 w).bind collA) st1).bind fun l st2 => (keysGo O f l st2).quiet.bind fun ks st3 => sortK ks l st3
def bListD : List A → Option A
  | [.dct l] => some (.lst (l.map (·.1)))
  | l => bList l

/-- sorted(x) of a list, a tuple, a dict -/
def bSortedC : List A → Option A
  | [a] => (collA a).bind fun l => if flat (.lst l) && sortable l then some (.lst (sortA l)) else none
  | _ => none
/-! ### two generators -/
def lcGo2 (O : Orc) (tg : Tg) (t : Te) (it1 : It) (tg1 : Tg) (own1 : List Nat) (t1 : Te) (x : Ex) (e : Env) (ok : Sto → Bool) : Nat → List A → Sto → Res (List A)
  | _, [], st => .ok [] st
  | n, a :: l, st => match tg.put a e with
    | none => .bad
    | some e1 => (t O e1 st).bind fun b st1 => if b then (it1 O e1 st1).bind fun p st2 => if p.2 st2 && decide (n + p.1.length ≤ Sz) then
        (lcGo O tg1 t1 x (wipe e1 own1) p.2 p.1 st2).bind fun ys st3 => if ok st3 then (lcGo2 O tg t it1 tg1 own1 t1 x e ok (n + p.1.length) l st3).bind fun zs st4 => .ok (ys ++ zs) st4 else .bad else .bad
      else if ok st1 then lcGo2 O tg t it1 tg1 own1 t1 x e ok n l st1 else .bad
def eLc2 (it : It) (tg : Tg) (own : List Nat) (t : Te) (it1 : It) (tg1 : Tg) (own1 : List Nat) (t1 : Te) (x : Ex) : Ex := fun O e st => (it O e st).bind fun p st1 => if p.2 st1 then (lcGo2 O tg t it1 tg1 own1 t1 x (wipe e own) p.2 0 p.1 st1).quiet.bind fun ys st2 => .ok (.v (.lst ys)) st2 else .bad
/-! ### dict(pairs) -/
def pairsA : List A → Option (List (A × A))
  | [] => some []
  | .tup [k, v] :: l => match pairsA l with
    | some m => if tupKey k then some ((k, v) :: m) else none
    | none => none
  | _ => none
def dPuts (acc m : List (A × A)) : List (A × A) := m.foldl (fun acc p => dPut acc p.1 p.2) acc
def bDict : List A → Option A
  | [.lst l] => (pairsA l).map fun m => .dct (dPuts [] m)
  | _ => none
/-! ### sorted(set(ints)) -/
def insI (k : Int) : List Int → List Int
  | [] => [k]
  | j :: l => if k < j then k :: j :: l else if k = j then j :: l else j :: insI k l
def setA : List Int → List Int
  | [] => []
  | k :: l => insI k (setA l)
def fSortSet : A → Option A
  | .lst l => (intsA l).bind fun ns => if ns.length < 64 then some (.lst ((setA ns).map .int)) else none
  | _ => none
/-! ### sum(lists, start) -/
def listsA : List A → Option (List (List A))
  | [] => some []
  | .lst m :: l => (listsA l).map (m :: ·)
  | _ :: _ => none
def bSumL : List A → Option A
  | [.lst l, .lst m] => (listsA l).bind fun ms => if m.length + ms.flatten.length ≤ Sz then some (.lst (m ++ ms.flatten)) else none
  | _ => none
/-! ### calls, sums, kept zips -/
/-- arguments, and the defaults behind them -/
def esDef (xs : Es) (ds : List A) : Es := fun O e st => (xs O e st).bind fun l st1 => .ok (l ++ ds.map W.v) st1
def eSumL (x y : Ex) : Ex := fun O e st => (x O e st).bind fun w st1 => (y O e st1).bind fun u st2 => match u with
  | .v b => ofV ((vw st2 w).bind fun a => bSumL [a, b]) st2
  | _ => .bad
/-- n = it; return f([x for g in n if t]) -/
def sZipR (i : Nat) (it : PV.It) (g : Tg) (own : List Nat) (t : Te) (x : Ex) (f : List A → Option A) : Stm := fun O e st => (it O e st).to e fun p st1 => sRet (eFn f (esCons (eLc (fun _ _ st => .ok p st) g own t x) esNil)) O (e.set i none) st1
/-- some of a list, by their places -/
def selF {α : Type} (perm : List Nat) (l : List α) : List α := perm.filterMap fun j => l[j]?
/-- f(a, .., k = b, ..): the values in the order of the parameters -/
def eCallK (i : Nat) (perm : List Nat) (xs ks : Es) : Ex := fun O e st => (xs O e st).bind fun l st1 => (ks O e st1).bind fun m st2 => O i (selF perm (l ++ m)) st2
def tBad : Te := fun _ _ _ => .bad
def itBad : It := fun _ _ _ => .bad
def esBad : Es := fun _ _ _ => .bad
end PV
end
section
set_option linter.all false
set_option Elab.async false
set_option maxRecDepth 100000
set_option maxHeartbeats 4000000
/-! PV1: what stands for a plain value in the model's heap. -/
namespace PV
open PySem PySem.Spec PyProof.Rows L2
abbrev Sl := L2.St

def S (l : List Nat) : PySem.Str := ⟨l.toArray⟩
theorem S_cps (l : List Nat) : (S l).cps.toList = l := rfl
theorem S_inj {a b : List Nat} (h : S a = S b) : a = b := congrArg (fun x : PySem.Str => x.cps.toList) h
theorem S_len (a : List Nat) : (S a).length = a.length := by simp [S, PySem.Str.length]

/-- the names of a program's things -/
structure Nm where
  K : PySem.W.Frag
  w : World
  fad : Nat → Addr
  cad : Nat → Addr
  fld : Nat → PySem.Str
  tyn : Nat → String

/-- a dict object with these entries -/
def dO (p : Addr) (es : Array DictEntry) (ep : Nat) : HO := .ext fun h => ∃ o, h.get? p = some o ∧ o.ExactDict ∧ o.data = .dict es ep

/-- a value as a key -/
def A.key : A → Option NestedKey := fun a => go a
where
  go : A → Option NestedKey
  | .non => some .none
  | .bl b => some (.num (if b then 1 else 0))
  | .int i => some (.num i)
  | .str s => some (.text (S s))
  | .tup l => (goL l).map .tup
  | _ => none
  goL : List A → Option (List NestedKey)
  | [] => some []
  | a :: l => match go a, goL l with
    | some k, some m => some (k :: m)
    | _, _ => none

/-- a dict's size, its keys are unlike -/
def szOk (es : Array DictEntry) (l : List (A × A)) : Prop := es.size ≤ sizeLine ∧ (l.map fun p => A.key p.1).Nodup
mutual
inductive Rp (N : Nm) (Z : Hp) : A → V → Prop
  | non : Rp N Z .non .non
  | bl (b) : Rp N Z (.bl b) (.bl b)
  | int (i) : Rp N Z (.int i) (.int i)
  | str (s) : Rp N Z (.str s) (.str (S s))
  | tup {l p vs} : SqT N.K Z p vs → RpL N Z l vs → Rp N Z (.tup l) (.ref p)
  | lst {l p vs} : SqL N.K Z p vs → RpL N Z l vs → Rp N Z (.lst l) (.ref p)
  | dct {l p es ep} : Z p = some (dO p es ep) → RpD N Z l es.toList → (p == sysModules) = false → szOk es l → Rp N Z (.dct l) (.ref p)
  | ins {c l p dx fs} : Z p = some (.ins (N.cad c) dx fs) → RpF N Z l fs → Rp N Z (.ins c l) (.ref p)
  | fn (f) : Rp N Z (.fn f) (.ref (N.fad f))
  | cls (c) : Rp N Z (.cls c) (.ref (N.cad c))
  | ty (t) : Rp N Z (.ty t) (.ty (N.tyn t))
inductive RpL (N : Nm) (Z : Hp) : List A → List V → Prop
  | nil : RpL N Z [] []
  | cons {a v l vs} : Rp N Z a v → RpL N Z l vs → RpL N Z (a :: l) (v :: vs)
inductive RpF (N : Nm) (Z : Hp) : List (Nat × A) → List (PySem.Str × V) → Prop
  | nil : RpF N Z [] []
  | cons {f a v l vs} : Rp N Z a v → RpF N Z l vs → RpF N Z ((f, a) :: l) ((N.fld f, v) :: vs)
inductive RpD (N : Nm) (Z : Hp) : List (A × A) → List DictEntry → Prop
  | nil : RpD N Z [] []
  | cons {k a nk kv av l} {e : DictEntry} {es} : Rp N Z k kv → RelV kv e.key → k.key = some nk → e.hash = nk.hash N.w → Rp N Z a av → RelV av e.val → RpD N Z l es → RpD N Z ((k, a) :: l) (e :: es)
end

/-- grows -/
def Le (Z Z' : Hp) : Prop := ∀ p o, Z p = some o → Z' p = some o
theorem Le.refl (Z : Hp) : Le Z Z := fun _ _ e => e
theorem Le.trans {Z Z' Z'' : Hp} (a : Le Z Z') (b : Le Z' Z'') : Le Z Z'' := fun p o e => b p o (a p o e)
theorem Le.sqT {K : PySem.W.Frag} {Z Z' : Hp} (h : Le Z Z') {p vs} (q : SqT K Z p vs) : SqT K Z' p vs := by
  rcases q with (q | ⟨o, q⟩) | q
  · exact .inl (.inl (h _ _ q))
  · exact .inl (.inr ⟨o, h _ _ q⟩)
  · exact .inr q
theorem Le.sqL {K : PySem.W.Frag} {Z Z' : Hp} (h : Le Z Z') {p vs} (q : SqL K Z p vs) : SqL K Z' p vs := by
  rcases q with (q | ⟨o, q⟩) | q
  · exact .inl (.inl (h _ _ q))
  · exact .inl (.inr ⟨o, h _ _ q⟩)
  · exact .inr q
mutual
theorem Rp.mono {N : Nm} {Z Z' : Hp} (h : Le Z Z') : ∀ {a v}, Rp N Z a v → Rp N Z' a v
  | _, _, .non => .non
  | _, _, .bl b => .bl b
  | _, _, .int i => .int i
  | _, _, .str s => .str s
  | _, _, .tup q r => .tup (h.sqT q) (RpL.mono h r)
  | _, _, .lst q r => .lst (h.sqL q) (RpL.mono h r)
  | _, _, .dct q r s t => .dct (h _ _ q) (RpD.mono h r) s t
  | _, _, .ins q r => .ins (h _ _ q) (RpF.mono h r)
  | _, _, .fn f => .fn f
  | _, _, .cls c => .cls c
  | _, _, .ty t => .ty t
theorem RpL.mono {N : Nm} {Z Z' : Hp} (h : Le Z Z') : ∀ {l vs}, RpL N Z l vs → RpL N Z' l vs
  | _, _, .nil => .nil
  | _, _, .cons a r => .cons (Rp.mono h a) (RpL.mono h r)
theorem RpF.mono {N : Nm} {Z Z' : Hp} (h : Le Z Z') : ∀ {l vs}, RpF N Z l vs → RpF N Z' l vs
  | _, _, .nil => .nil
  | _, _, .cons a r => .cons (Rp.mono h a) (RpF.mono h r)
theorem RpD.mono {N : Nm} {Z Z' : Hp} (h : Le Z Z') : ∀ {l vs}, RpD N Z l vs → RpD N Z' l vs
  | _, _, .nil => .nil
  | _, _, .cons a b c d e f r => .cons (Rp.mono h a) b c d (Rp.mono h e) f (RpD.mono h r)
end
theorem RpL.length {N : Nm} {Z : Hp} : ∀ {l vs}, RpL N Z l vs → l.length = vs.length
  | _, _, .nil => rfl
  | _, _, .cons _ r => by simp [RpL.length r]
theorem RpL.get {N : Nm} {Z : Hp} : ∀ {l : List A} {vs : List V} {i : Nat} {a : A}, RpL N Z l vs → l[i]? = some a → ∃ v, vs[i]? = some v ∧ Rp N Z a v
  | _, _, _, _, .nil, e => by simp at e
  | _, _, 0, _, .cons a r, e => by simp at e; subst e; exact ⟨_, rfl, a⟩
  | _, _, i + 1, _, .cons _ r, e => by
    obtain ⟨v, h1, h2⟩ := RpL.get (i := i) r (by simpa using e)
    exact ⟨v, by simpa using h1, h2⟩
theorem RpL.get' {N : Nm} {Z : Hp} : ∀ {l : List A} {vs : List V} {i : Nat} {v : V}, RpL N Z l vs → vs[i]? = some v → ∃ a, l[i]? = some a ∧ Rp N Z a v
  | _, _, _, _, .nil, e => by simp at e
  | _, _, 0, _, .cons a r, e => by simp at e; subst e; exact ⟨_, rfl, a⟩
  | _, _, i + 1, _, .cons _ r, e => by
    obtain ⟨v, h1, h2⟩ := RpL.get' (i := i) r (by simpa using e)
    exact ⟨v, by simpa using h1, h2⟩
theorem RpL.append {N : Nm} {Z : Hp} : ∀ {l vs m us}, RpL N Z l vs → RpL N Z m us → RpL N Z (l ++ m) (vs ++ us)
  | _, _, _, _, .nil, r => r
  | _, _, _, _, .cons a q, r => .cons a (RpL.append q r)
theorem RpL.take {N : Nm} {Z : Hp} : ∀ {l vs} (n : Nat), RpL N Z l vs → RpL N Z (l.take n) (vs.take n)
  | _, _, 0, _ => by simpa using RpL.nil
  | _, _, _ + 1, .nil => .nil
  | _, _, n + 1, .cons a r => .cons a (RpL.take n r)
theorem RpL.drop {N : Nm} {Z : Hp} : ∀ {l vs} (n : Nat), RpL N Z l vs → RpL N Z (l.drop n) (vs.drop n)
  | _, _, 0, r => r
  | _, _, _ + 1, .nil => .nil
  | _, _, n + 1, .cons a r => RpL.drop n r
theorem RpL.set {N : Nm} {Z : Hp} {b u} (h : Rp N Z b u) : ∀ {l vs} (i : Nat), RpL N Z l vs → RpL N Z (l.set i b) (vs.set i u)
  | _, _, _, .nil => .nil
  | _, _, 0, .cons a r => .cons h r
  | _, _, i + 1, .cons a r => .cons a (RpL.set h i r)
theorem RpL.reverse {N : Nm} {Z : Hp} : ∀ {l vs}, RpL N Z l vs → RpL N Z l.reverse vs.reverse
  | _, _, .nil => .nil
  | _, _, .cons a r => by
    rw [List.reverse_cons, List.reverse_cons]
    exact (RpL.reverse r).append (.cons a .nil)

/-! ### names -/
def RpW (N : Nm) (Z : Hp) (c : List Addr) : W → V → Prop
  | .v a, v => Rp N Z a v
  | .cel n, v => ∃ p, c[n]? = some p ∧ v = .ref p
  | .lam _ _, _ => False
inductive RpFW (N : Nm) (Z : Hp) (c : List Addr) : List (Nat × W) → List (PySem.Str × V) → Prop
  | nil : RpFW N Z c [] []
  | cons {f w v l vs} : RpW N Z c w v → RpFW N Z c l vs → RpFW N Z c ((f, w) :: l) ((N.fld f, v) :: vs)
inductive RpWs (N : Nm) (Z : Hp) (c : List Addr) : List W → List V → Prop
  | nil : RpWs N Z c [] []
  | cons {w v l vs} : RpW N Z c w v → RpWs N Z c l vs → RpWs N Z c (w :: l) (v :: vs)
def CellR (N : Nm) (Z : Hp) (c : List Addr) (H : Hp) : Cell → Addr → Prop
  | .lst l, p => ∃ vs, H p = some (.lst vs) ∧ RpL N Z l vs
  | .dct l, p => ∃ es ep, H p = some (dO p es ep) ∧ RpD N Z l es.toList ∧ (p == sysModules) = false ∧ szOk es l
  | .ins k fs, p => ∃ dx gs, H p = some (.ins (N.cad k) dx gs) ∧ RpFW N Z c fs gs

/-- the frozen heap Z within H, the changing things at c -/
structure RelH (N : Nm) (Z : Hp) (c : List Addr) (st : Sto) (H : Hp) : Prop where
  sub : Le Z H
  len : c.length = st.length
  nd : c.Nodup
  fr : ∀ p ∈ c, Z p = none
  cel : ∀ (n : Nat) p C, c[n]? = some p → st[n]? = some C → CellR N Z c H C p

structure Ext (Z : Hp) (c : List Addr) (H : Hp) (Z' : Hp) (c' : List Addr) (H' : Hp) : Prop where
  zz : Le Z Z'
  new : ∀ p o, Z' p = some o → Z p = some o ∨ H p = none
  keep : ∀ p o, H p = some o → p ∉ c → H' p = some o
  pre : ∃ d, c' = c ++ d ∧ ∀ p ∈ d, H p = none
  there : ∀ p, H p ≠ none → H' p ≠ none
theorem Ext.refl (Z c H) : Ext Z c H Z c H := ⟨Le.refl _, fun _ _ e => .inl e, fun _ _ e _ => e, ⟨[], by simp⟩, fun _ e => e⟩
theorem Ext.trans {Z c H Z' c' H' Z'' c'' H''} (a : Ext Z c H Z' c' H') (b : Ext Z' c' H' Z'' c'' H'') : Ext Z c H Z'' c'' H'' := by
  obtain ⟨d, hd, hn⟩ := a.pre
  obtain ⟨d', hd', hn'⟩ := b.pre
  have none_of : ∀ p, H' p = none → H p = none := fun p e => by
    cases q : H p with
    | none => rfl
    | some o => exact absurd e (a.there p (by rw [q]; exact fun z => nomatch z))
  refine ⟨a.zz.trans b.zz, fun p o e => ?_, fun p o e hp => ?_, ⟨d ++ d', by rw [hd', hd, List.append_assoc], fun p hp => ?_⟩, fun p e => b.there p (a.there p e)⟩
  · rcases b.new p o e with e | e
    · exact a.new p o e
    · exact .inr (none_of p e)
  · have hc' : p ∉ c' := by
      rw [hd]
      intro hm
      rcases List.mem_append.mp hm with hm | hm
      · exact hp hm
      · rw [hn p hm] at e; cases e
    exact b.keep p o (a.keep p o e hp) hc'
  · rcases List.mem_append.mp hp with hp | hp
    · exact hn p hp
    · exact none_of p (hn' p hp)
theorem Ext.get {Z c H Z' c' H'} (a : Ext Z c H Z' c' H') {n : Nat} {p : Addr} (e : c[n]? = some p) : c'[n]? = some p := by
  obtain ⟨d, rfl, _⟩ := a.pre
  rw [List.getElem?_append_left (List.getElem?_eq_some_iff.mp e).1]
  exact e
/-- the frozen heap, the things that change grow -/
structure Ext0 (Z : Hp) (c : List Addr) (Z' : Hp) (c' : List Addr) : Prop where
  zz : Le Z Z'
  pre : ∃ d, c' = c ++ d
theorem Ext.e0 {Z c H Z' c' H'} (a : Ext Z c H Z' c' H') : Ext0 Z c Z' c' := ⟨a.zz, let ⟨d, h, _⟩ := a.pre; ⟨d, h⟩⟩
theorem Ext0.get {Z c Z' c'} (a : Ext0 Z c Z' c') {n : Nat} {p : Addr} (e : c[n]? = some p) : c'[n]? = some p := by
  obtain ⟨d, rfl⟩ := a.pre
  rw [List.getElem?_append_left (List.getElem?_eq_some_iff.mp e).1]
  exact e
theorem RpW.mono {N Z c H Z' c' H'} (x : Ext Z c H Z' c' H') : ∀ {w v}, RpW N Z c w v → RpW N Z' c' w v
  | .v a, _, h => Rp.mono x.zz h
  | .cel n, _, ⟨p, e, q⟩ => ⟨p, x.get e, q⟩
  | .lam _ _, _, h => h.elim
theorem RpFW.mono {N Z c H Z' c' H'} (x : Ext Z c H Z' c' H') : ∀ {w v}, RpFW N Z c w v → RpFW N Z' c' w v
  | _, _, .nil => .nil
  | _, _, .cons a r => .cons (RpW.mono x a) (RpFW.mono x r)
theorem RpWs.mono {N Z c H Z' c' H'} (x : Ext Z c H Z' c' H') : ∀ {w v}, RpWs N Z c w v → RpWs N Z' c' w v
  | _, _, .nil => .nil
  | _, _, .cons a r => .cons (RpW.mono x a) (RpWs.mono x r)

/-- the frame's names -/
def RelE (N : Nm) (Z : Hp) (c : List Addr) (env : Env) (σ : Sl) : Prop := env.length = σ.length ∧ ∀ (i : Nat) w, env[i]? = some (some w) → ∃ v, σ[i]? = some (some v) ∧ RpW N Z c w v
theorem RelE.mono {N Z c H Z' c' H'} (x : Ext Z c H Z' c' H') {env σ} (r : RelE N Z c env σ) : RelE N Z' c' env σ :=
  ⟨r.1, fun i w e => let ⟨v, h1, h2⟩ := r.2 i w e; ⟨v, h1, h2.mono x⟩⟩
theorem RelE.set {N Z c env σ} (r : RelE N Z c env σ) {w v} (h : RpW N Z c w v) (i : Nat) : RelE N Z c (env.set i (some w)) (σ.set i (some v)) := by
  refine ⟨by simpa using r.1, fun j u e => ?_⟩
  by_cases hj : i = j
  · subst hj
    by_cases hi : i < env.length
    · rw [List.getElem?_set_self hi] at e
      cases e
      exact ⟨v, List.getElem?_set_self (by rw [← r.1]; exact hi), h⟩
    · rw [List.getElem?_eq_none (by simpa using hi)] at e
      cases e
  · rw [List.getElem?_set_ne hj] at e
    obtain ⟨x, h1, h2⟩ := r.2 j u e
    exact ⟨x, by rw [List.getElem?_set_ne hj]; exact h1, h2⟩
theorem RelE.setN {N Z c env σ} (r : RelE N Z c env σ) (i : Nat) : RelE N Z c (env.set i none) (σ.set i none) := by
  refine ⟨by simpa using r.1, fun j u e => ?_⟩
  by_cases hj : i = j
  · subst hj
    by_cases hi : i < env.length
    · rw [List.getElem?_set_self hi] at e
      cases e
    · rw [List.getElem?_eq_none (by simpa using hi)] at e
      cases e
  · rw [List.getElem?_set_ne hj] at e
    obtain ⟨x, h1, h2⟩ := r.2 j u e
    exact ⟨x, by rw [List.getElem?_set_ne hj]; exact h1, h2⟩
theorem RelE.wipe {N Z c env σ} (r : RelE N Z c env σ) : ∀ own : List Nat, RelE N Z c (PV.wipe env own) (L2.wipe σ own)
  | [] => r
  | i :: own => (RelE.wipe r own).setN i

/-- a value as it is read now -/
def Vw (N : Nm) (Z H : Hp) : A → V → Prop
  | .lst l, v => ∃ p vs, v = .ref p ∧ SqL N.K H p vs ∧ RpL N Z l vs
  | .dct l, v => ∃ p es ep, v = .ref p ∧ H p = some (dO p es ep) ∧ RpD N Z l es.toList ∧ (p == sysModules) = false ∧ szOk es l
  | a, v => Rp N Z a v
theorem Vw.of {N Z H} (hs : Le Z H) : ∀ {a v}, Rp N Z a v → Vw N Z H a v
  | .lst l, _, .lst q r => ⟨_, _, rfl, hs.sqL q, r⟩
  | .dct l, _, .dct q r s t => ⟨_, _, _, rfl, hs _ _ q, r, s, t⟩
  | .non, _, h => h
  | .bl _, _, h => h
  | .int _, _, h => h
  | .str _, _, h => h
  | .tup _, _, h => h
  | .set _, _, h => h
  | .ins _ _, _, h => h
  | .fn _, _, h => h
  | .cls _, _, h => h
  | .ty _, _, h => h
theorem vw_ok {N Z c st H} (R : RelH N Z c st H) : ∀ {w v a}, RpW N Z c w v → vw st w = some a → Vw N Z H a v
  | .v a, v, b, h, e => by
    cases e
    exact Vw.of R.sub h
  | .cel n, v, b, ⟨p, hp, hv⟩, e => by
    subst hv
    cases q : st[n]? with
    | none => simp [vw, q] at e
    | some C =>
      have cr := R.cel n p C hp q
      cases C with
      | lst l =>
        simp [vw, q] at e
        subst e
        obtain ⟨vs, h1, h2⟩ := cr
        exact ⟨p, vs, rfl, SqL.of h1, h2⟩
      | dct l =>
        simp [vw, q] at e
        subst e
        obtain ⟨es, ep, h1, h2, h3, h4⟩ := cr
        exact ⟨p, es, ep, rfl, h1, h2, h3, h4⟩
      | ins k fs => simp [vw, q] at e
  | .lam _ _, _, _, h, _ => h.elim

/-! ### Ext and RelH by steps -/
section
variable {N : Nm} {Z : Hp} {c : List Addr} {st : Sto} {H : Hp}
theorem CellR.mono {Z' c' H'} (x : Ext Z c H Z' c' H') {p : Addr} (hp : H' p = H p) : ∀ {C}, CellR N Z c H C p → CellR N Z' c' H' C p
  | .lst l, ⟨vs, h1, h2⟩ => ⟨vs, by rw [hp]; exact h1, h2.mono x.zz⟩
  | .dct l, ⟨es, ep, h1, h2, h3, h4⟩ => ⟨es, ep, by rw [hp]; exact h1, h2.mono x.zz, h3, h4⟩
  | .ins k fs, ⟨dx, gs, h1, h2⟩ => ⟨dx, gs, by rw [hp]; exact h1, h2.mono x⟩
theorem RelH.tracked (R : RelH N Z c st H) {p : Addr} (hp : p ∈ c) : H p ≠ none := by
  obtain ⟨n, hn, e⟩ := List.mem_iff_getElem.mp hp
  have hn' : n < st.length := by rw [← R.len]; exact hn
  have := R.cel n p st[n] (by rw [List.getElem?_eq_getElem hn, e]) (List.getElem?_eq_getElem hn')
  intro z
  cases q : st[n] with
  | lst l => rw [q] at this; obtain ⟨_, h, _⟩ := this; rw [z] at h; cases h
  | dct l => rw [q] at this; obtain ⟨_, _, h, _⟩ := this; rw [z] at h; cases h
  | ins k fs => rw [q] at this; obtain ⟨_, _, h, _⟩ := this; rw [z] at h; cases h
/-- a new object, frozen -/
theorem ext_new (R : RelH N Z c st H) {p : Addr} {o : HO} (hp : H p = none) : Ext Z c H (upd Z p o) c (upd H p o) ∧ RelH N (upd Z p o) c st (upd H p o) := by
  have hz : Z p = none := by
    cases q : Z p with
    | none => rfl
    | some u => rw [R.sub p u q] at hp; cases hp
  have x : Ext Z c H (upd Z p o) c (upd H p o) := by
    refine ⟨fun q u e => ?_, fun q u e => ?_, fun q u e _ => ?_, ⟨[], by simp⟩, fun q e => ?_⟩
    · rw [upd_ne (ne_of_none e hz)]; exact e
    · by_cases h : q = p
      · subst h; exact .inr hp
      · rw [upd_ne h] at e; exact .inl e
    · rw [upd_ne (ne_of_none e hp)]; exact e
    · by_cases h : q = p
      · subst h; rw [upd_same]; exact fun z => nomatch z
      · rw [upd_ne h]; exact e
  refine ⟨x, ⟨fun q u e => ?_, R.len, R.nd, fun q hq => ?_, fun n q C e1 e2 => ?_⟩⟩
  · by_cases h : q = p
    · subst h; rw [upd_same] at e ⊢; exact e
    · rw [upd_ne h] at e ⊢; exact R.sub q u e
  · have : q ≠ p := fun h => R.tracked hq (by rw [h]; exact hp)
    rw [upd_ne this]
    exact R.fr q hq
  · have hq : q ∈ c := List.mem_of_getElem? e1
    have : q ≠ p := fun h => R.tracked hq (by rw [h]; exact hp)
    exact CellR.mono x (upd_ne this) (R.cel n q C e1 e2)
/-- a new object, left alone -/
theorem ext_junk (R : RelH N Z c st H) {p : Addr} {o : HO} (hp : H p = none) : Ext Z c H Z c (upd H p o) ∧ RelH N Z c st (upd H p o) := by
  have x : Ext Z c H Z c (upd H p o) := by
    refine ⟨Le.refl _, fun q u e => .inl e, fun q u e _ => ?_, ⟨[], by simp⟩, fun q e => ?_⟩
    · rw [upd_ne (ne_of_none e hp)]; exact e
    · by_cases h : q = p
      · subst h; rw [upd_same]; exact fun z => nomatch z
      · rw [upd_ne h]; exact e
  refine ⟨x, ⟨fun q u e => ?_, R.len, R.nd, R.fr, fun n q C e1 e2 => ?_⟩⟩
  · have e' := R.sub q u e
    rw [upd_ne (ne_of_none e' hp)]; exact e'
  · have hq : q ∈ c := List.mem_of_getElem? e1
    have : q ≠ p := fun h => R.tracked hq (by rw [h]; exact hp)
    exact CellR.mono x (upd_ne this) (R.cel n q C e1 e2)
/-- a new thing that changes -/
theorem ext_cell (R : RelH N Z c st H) {p : Addr} {o : HO} {C : Cell} (hp : H p = none) (hc : CellR N Z (c ++ [p]) (upd H p o) C p) : Ext Z c H Z (c ++ [p]) (upd H p o) ∧ RelH N Z (c ++ [p]) (st ++ [C]) (upd H p o) := by
  have x : Ext Z c H Z (c ++ [p]) (upd H p o) := by
    refine ⟨Le.refl _, fun q u e => .inl e, fun q u e _ => ?_, ⟨[p], rfl, fun q hq => ?_⟩, fun q e => ?_⟩
    · rw [upd_ne (ne_of_none e hp)]; exact e
    · rw [List.mem_singleton.mp hq]; exact hp
    · by_cases h : q = p
      · subst h; rw [upd_same]; exact fun z => nomatch z
      · rw [upd_ne h]; exact e
  refine ⟨x, ⟨fun q u e => ?_, by simp [R.len], ?_, fun q hq => ?_, fun n q C' e1 e2 => ?_⟩⟩
  · have e' := R.sub q u e
    rw [upd_ne (ne_of_none e' hp)]; exact e'
  · rw [List.nodup_append]
    refine ⟨R.nd, by simp, fun a ha b hb => ?_⟩
    rw [List.mem_singleton.mp hb]
    exact fun h => R.tracked ha (by rw [h]; exact hp)
  · rcases List.mem_append.mp hq with hq | hq
    · exact R.fr q hq
    · rw [List.mem_singleton.mp hq]
      cases z : Z p with
      | none => rfl
      | some u => rw [R.sub p u z] at hp; cases hp
  · by_cases hn : n < c.length
    · rw [List.getElem?_append_left hn] at e1
      rw [List.getElem?_append_left (by rw [← R.len]; exact hn)] at e2
      have hq : q ∈ c := List.mem_of_getElem? e1
      have : q ≠ p := fun h => R.tracked hq (by rw [h]; exact hp)
      exact CellR.mono x (upd_ne this) (R.cel n q C' e1 e2)
    · rw [List.getElem?_append_right (by omega)] at e1
      rw [List.getElem?_append_right (by rw [← R.len]; omega)] at e2
      rw [R.len] at e1
      have h0 : n - st.length = 0 := by
        rcases Nat.eq_zero_or_pos (n - st.length) with h | h
        · exact h
        · rw [List.getElem?_eq_none (by simp; omega)] at e1; cases e1
      rw [h0] at e1 e2
      simp at e1 e2
      subst e1 e2
      exact hc
/-- a thing that changes is changed -/
theorem ext_write (R : RelH N Z c st H) {n : Nat} {p : Addr} {o : HO} {C : Cell} (hp : c[n]? = some p) (hc : CellR N Z c (upd H p o) C p) : Ext Z c H Z c (upd H p o) ∧ RelH N Z c (st.set n C) (upd H p o) := by
  have hpc : p ∈ c := List.mem_of_getElem? hp
  have x : Ext Z c H Z c (upd H p o) := by
    refine ⟨Le.refl _, fun q u e => .inl e, fun q u e hq => ?_, ⟨[], by simp⟩, fun q e => ?_⟩
    · rw [upd_ne (fun h => hq (by rw [h]; exact hpc))]; exact e
    · by_cases h : q = p
      · subst h; rw [upd_same]; exact fun z => nomatch z
      · rw [upd_ne h]; exact e
  refine ⟨x, ⟨fun q u e => ?_, by simpa using R.len, R.nd, R.fr, fun m q C' e1 e2 => ?_⟩⟩
  · have : q ≠ p := fun h => by
      have := R.fr p hpc
      rw [← h, e] at this
      cases this
    rw [upd_ne this]; exact R.sub q u e
  · by_cases hm : n = m
    · subst hm
      rw [hp] at e1
      cases e1
      have hl : n < st.length := by rw [← R.len]; exact (List.getElem?_eq_some_iff.mp hp).1
      rw [List.getElem?_set_self hl] at e2
      cases e2
      exact hc
    · rw [List.getElem?_set_ne hm] at e2
      have hq : q ≠ p := fun h => by
        subst h
        have h1 := List.getElem?_eq_some_iff.mp e1
        have h2 := List.getElem?_eq_some_iff.mp hp
        exact hm ((List.getElem_inj R.nd).mp (h2.2.trans h1.2.symm))
      exact CellR.mono x (upd_ne hq) (R.cel m q C' e1 e2)
end
end PV
end
section
set_option linter.all false
set_option Elab.async false
set_option maxRecDepth 100000
set_option maxHeartbeats 4000000
/-! PV2: the combinators are what the model does: expressions, tests, plain statements. -/
namespace PV
open PySem PySem.Spec PyProof.Rows L2

/-- an exception as it lies: its class, its fields -/
def ExcR (N : Nm) (Z : Hp) (k : Nat) (fs : List (Nat × A)) (cls : Value) (d : Option Addr) (H : Hp) : Prop :=
  cls = .ref (N.cad k) ∧ ∃ dd gs, d = some dd ∧ H dd = some (.xd gs) ∧ RpF N Z fs gs

def Outc {α : Type} (N : Nm) (Y : WX) (σ : Sl) (Z : Hp) (c : List Addr) (H : Hp) (r : Res α) (Q : α → Hp → List Addr → Hp → Prop) : Prop := match r with
  | .ok a st => ∀ Z' c' H', Ext Z c H Z' c' H' → RelH N Z' c' st H' → Q a Z' c' H'
  | .exc k fs st => ∀ Z' c' H' cls d, Ext Z c H Z' c' H' → RelH N Z' c' st H' → ExcR N Z' k fs cls d H' → Y cls d σ H'
  | .bad => False
section
variable {α β : Type} {N : Nm} {Y : WX} {σ : Sl} {Z : Hp} {c : List Addr} {H : Hp}
theorem Outc.mono {r : Res α} {Q Q'} (h : Outc N Y σ Z c H r Q) {Z1 c1 H1} (x : Ext Z c H Z1 c1 H1) (hQ : ∀ a Z' c' H', Ext Z1 c1 H1 Z' c' H' → Q a Z' c' H' → Q' a Z' c' H') : Outc N Y σ Z1 c1 H1 r Q' := by
  cases r with
  | ok a st => exact fun Z' c' H' x' R' => hQ _ _ _ _ x' (h Z' c' H' (x.trans x') R')
  | exc k fs st => exact fun Z' c' H' cls d x' R' e => h Z' c' H' cls d (x.trans x') R' e
  | bad => exact h
theorem Outc.bind {r : Res α} {f : α → Sto → Res β} {Q} (h : Outc N Y σ Z c H (r.bind f) Q) :
    Outc N Y σ Z c H r fun a Z1 c1 H1 => ∃ st1, RelH N Z1 c1 st1 H1 ∧ Ext Z c H Z1 c1 H1 ∧ Outc N Y σ Z1 c1 H1 (f a st1) Q := by
  cases r with
  | ok a st => exact fun Z1 c1 H1 x1 R1 => ⟨st, R1, x1, Outc.mono h x1 fun _ _ _ _ _ q => q⟩
  | exc k fs st => exact h
  | bad => exact h
theorem Outc.of {o : Option α} {st : Sto} {Q : α → Hp → List Addr → Hp → Prop} (h : Outc N Y σ Z c H (Res.of o st) Q) (R : RelH N Z c st H) : ∃ a, o = some a ∧ Q a Z c H := by
  cases o with
  | some a => exact ⟨a, rfl, h Z c H (Ext.refl ..) R⟩
  | none => exact h.elim
theorem Outc.okk {a : α} {st : Sto} {Q : α → Hp → List Addr → Hp → Prop} (h : Outc N Y σ Z c H (Res.ok a st) Q) (R : RelH N Z c st H) : Q a Z c H := h Z c H (Ext.refl ..) R
end

/-! ### what an expression, a test, a list does -/
def WE (X : Cx) (e : Expr) (σ : Sl) (H : Hp) (Q : VK) : Prop := ∀ (pins : List (Addr × Obj)) (s : Shared), Inv X pins σ H s → wpAny (model X.prog X.w) X.A (eval e X.env) (EP X pins σ Q) X.xe s
def WT (X : Cx) (e : Expr) (σ : Sl) (H : Hp) (Q : Bool → Hp → Prop) : Prop := ∀ (pins : List (Addr × Obj)) (s : Shared), Inv X pins σ H s → wpAny (model X.prog X.w) X.A (isTrue e X.env (eval e X.env)) (TP X pins σ Q) X.xe s
/-- a test whatever its whole is -/
def WW (X : Cx) (e : Expr) (σ : Sl) (H : Hp) (Q : Bool → Hp → Prop) : Prop := ∀ (whole : Sem Value) (pins : List (Addr × Obj)) (s : Shared), Inv X pins σ H s → wpAny (model X.prog X.w) X.A (isTrue e X.env whole) (TP X pins σ Q) X.xe s
def WA (X : Cx) (es : List Expr) (σ : Sl) (H : Hp) (Q : List V → Hp → Prop) : Prop := ∀ (pos : Pos) (pins : List (Addr × Obj)) (s : Shared), Inv X pins σ H s → wpAny (model X.prog X.w) X.A (spliced (backTo pos (starEach es X.env))) (AP X pins σ Q) X.xe s
theorem WE.pe (X : Cx) (e : Expr) : PE X e (WE X e) := ⟨fun pins s σ H Q I h => h pins s I⟩
theorem WT.pt (X : Cx) (e : Expr) : PT X e (WT X e) := ⟨fun pins s σ H Q I h => h pins s I⟩
theorem WW.pw (X : Cx) (e : Expr) : PW X e (WW X e) := ⟨fun wh pins s σ H Q I h => h wh pins s I⟩
theorem WA.pa (X : Cx) (es : List Expr) : PA X es (WA X es) := ⟨fun pos pins s σ H Q I h => h pos pins s I⟩
theorem WE.of {X : Cx} {e : Expr} {t : TE} (h : PE X e t) {σ H Q} (q : t σ H Q) : WE X e σ H Q := fun pins s I => h.run pins s σ H Q I q
theorem WT.of {X : Cx} {e : Expr} {t : TT} (h : PT X e t) {σ H Q} (q : t σ H Q) : WT X e σ H Q := fun pins s I => h.run pins s σ H Q I q
theorem WW.of {X : Cx} {e : Expr} {t : TT} (h : PW X e t) {σ H Q} (q : t σ H Q) : WW X e σ H Q := fun wh pins s I => h.run wh pins s σ H Q I q
theorem WA.of {X : Cx} {es : List Expr} {t : TA} (h : PA X es t) {σ H Q} (q : t σ H Q) : WA X es σ H Q := fun pos pins s I => h.run pos pins s σ H Q I q
theorem WW.wt {X : Cx} {e : Expr} {σ H Q} (h : WW X e σ H Q) : WT X e σ H Q := fun pins s I => h _ pins s I

/-- where a body stands -/
structure Fit (N : Nm) (X : Cx) : Prop where
  K : X.K = N.K
  w : X.w = N.w
  nd : X.N.Nodup
  calm : X.calm = true
  units : X.A.units + 150 < cLine
  dp : X.A.depth + 4 < recursionLimit
  hd : X.A.handled = none
  gu : X.A.guards = some []

theorem Fit.sqT {N : Nm} {X : Cx} (F : Fit N X) {H : Hp} {p vs} (q : SqT N.K H p vs) : SqT X.K H p vs := by rw [F.K]; exact q
theorem Fit.sqL {N : Nm} {X : Cx} (F : Fit N X) {H : Hp} {p vs} (q : SqL N.K H p vs) : SqL X.K H p vs := by rw [F.K]; exact q
theorem Fit.tuple {N : Nm} {X : Cx} (F : Fit N X) {pins σ H s p vs} (I : Inv X pins σ H s) (q : SqT N.K H p vs) : ∃ its : List Value, Vals vs its ∧ IsTup s.heap p its.toArray ∧ vs.length ≤ sizeLine := I.tuple (F.sqT q)
theorem Fit.list {N : Nm} {X : Cx} (F : Fit N X) {pins σ H s p vs} (I : Inv X pins σ H s) (q : SqL N.K H p vs) : ∃ its : List Value, Vals vs its ∧ PlainL s.heap p its.toArray ∧ vs.length ≤ sizeLine := I.list (F.sqL q)

def SndE (N : Nm) (O : Orc) (X : Cx) (e : Expr) (x : Ex) : Prop := ∀ (Y : WX), Takes X Y → ∀ env st σ Z c H, RelH N Z c st H → RelE N Z c env σ → ∀ Q : VK,
  Outc N Y σ Z c H (x O env st) (fun w Z' c' H' => ∀ v, RpW N Z' c' w v → Q v H') → WE X e σ H Q
def SndT (N : Nm) (O : Orc) (X : Cx) (e : Expr) (t : Te) : Prop := ∀ (Y : WX), Takes X Y → ∀ env st σ Z c H, RelH N Z c st H → RelE N Z c env σ → ∀ Q : Bool → Hp → Prop,
  Outc N Y σ Z c H (t O env st) (fun b _ _ H' => Q b H') → WT X e σ H Q
def SndW (N : Nm) (O : Orc) (X : Cx) (e : Expr) (t : Te) : Prop := ∀ (Y : WX), Takes X Y → ∀ env st σ Z c H, RelH N Z c st H → RelE N Z c env σ → ∀ Q : Bool → Hp → Prop,
  Outc N Y σ Z c H (t O env st) (fun b _ _ H' => Q b H') → WW X e σ H Q
def SndA (N : Nm) (O : Orc) (X : Cx) (es : List Expr) (xs : Es) : Prop := ∀ (Y : WX), Takes X Y → ∀ env st σ Z c H, RelH N Z c st H → RelE N Z c env σ → ∀ Q : List V → Hp → Prop,
  Outc N Y σ Z c H (xs O env st) (fun l Z' c' H' => ∀ vs, RpWs N Z' c' l vs → Q vs H') → WA X es σ H Q

section
variable {N : Nm} {O : Orc} {X : Cx}

/-! ### names, constants -/
theorem snd_var {i : Nat} {x : PySem.Str} {pos : Pos} (hN : X.N[i]? = some x) (hv : Vis X.env.scope x) (hd : (x == ("__debug__" : PySem.Str)) = false) (hcd : (x == ("__classdict__" : PySem.Str)) = false) : SndE N O X (.Name x pos) (eVar i) := by
  intro Y tk env st σ Z c H R E Q h
  unfold eVar at h
  cases e : env[i]? with
  | none => rw [e] at h; exact h.elim
  | some o =>
    cases o with
    | none => rw [e] at h; exact h.elim
    | some w =>
      rw [e] at h
      obtain ⟨v, h1, h2⟩ := E.2 i w e
      exact WE.of (pe_var hN hv hd hcd) ⟨v, h1, h.okk R v h2⟩
theorem snd_con {e : Expr} {v : V} {a : A} (he : PE X e (tC v)) (r : ∀ Z, Rp N Z a v) : SndE N O X e (eCon a) := by
  intro Y tk env st σ Z c H R E Q h
  have q := Outc.okk (a := W.v a) h R v (r Z)
  exact WE.of he q
theorem snd_glob {x : PySem.Str} {v : V} {a : A} {u : Value} {pos : Pos} (hg : Gl X x) (hm : X.mg x = some u) (r : RelV v u) (q : ∀ Z, Rp N Z a v) (hd : (x == ("__debug__" : PySem.Str)) = false) : SndE N O X (.Name x pos) (eCon a) := snd_con (pe_glob hg hm r hd) q
/-- a written constant -/
def cA : Const → Option A
  | .none => some .non
  | .bool b => some (.bl b)
  | .int i => some (.int i)
  | .str s => some (.str s.cps.toList)
  | _ => none
theorem S_of (s : PySem.Str) : S s.cps.toList = s := by cases s; rfl
theorem snd_const {k : Const} {j pos} {a : A} (h : cA k = some a) : SndE N O X (.Constant k j pos) (eCon a) := by
  cases k with
  | none => cases h; exact snd_con pe_non fun _ => .non
  | bool b => cases h; exact snd_con pe_bl fun _ => .bl b
  | int i => cases h; exact snd_con pe_int fun _ => .int i
  | str s =>
    cases h
    refine snd_con pe_str fun Z => ?_
    have := Rp.str (N := N) (Z := Z) s.cps.toList
    rw [S_of] at this
    exact this
  | _ => cases h

/-! ### operators -/
/-- what is left behind an operation -/
def PostV (N : Nm) (X : Cx) (pins : List (Addr × Obj)) (σ : Sl) (Z : Hp) (c : List Addr) (st : Sto) (H : Hp) (r : A) (u : Value) (s' : Shared) : Prop :=
  ∃ Z' H' v, Inv X pins σ H' s' ∧ Ext Z c H Z' c H' ∧ RelH N Z' c st H' ∧ RelV v u ∧ Rp N Z' r v
def Val1 (N : Nm) (X : Cx) (fv : Value → Sem Value) (f : A → Option A) : Prop := ∀ pins s σ Z c st H a v u r, Inv X pins σ H s → RelH N Z c st H → Vw N Z H a v → RelV v u → f a = some r →
  wpAny (model X.prog X.w) X.A (fv u) (PostV N X pins σ Z c st H r) X.xe s
def Val2 (N : Nm) (X : Cx) (fv : Value → Value → Sem Value) (f : A → A → Option A) : Prop := ∀ pins s σ Z c st H a v u a' v' u' r, Inv X pins σ H s → RelH N Z c st H → Vw N Z H a v → RelV v u → Vw N Z H a' v' → RelV v' u' → f a a' = some r →
  wpAny (model X.prog X.w) X.A (fv u u') (PostV N X pins σ Z c st H r) X.xe s
theorem PostV.same {pins σ Z c st H r s v u} (I : Inv X pins σ H s) (R : RelH N Z c st H) (rv : RelV v u) (q : Rp N Z r v) : PostV N X pins σ Z c st H r u s := ⟨Z, H, v, I, Ext.refl .., R, rv, q⟩
/-- behind an operation: the end -/
theorem PostV.ep {pins σ Z c st H r u s'} {Q : VK} {Y : WX} (p : PostV N X pins σ Z c st H r u s') (h : Outc N Y σ Z c H (Res.ok (W.v r) st) fun w Z' c' H' => ∀ v, RpW N Z' c' w v → Q v H') : EP X pins σ Q u s' := by
  obtain ⟨Z', H', v, I', x', R', rv, q⟩ := p
  exact ⟨v, H', I', rv, h Z' c H' x' R' v q⟩
theorem op1_ok {f : A → Option A} {w st} {Y : WX} {σ Z c H} {Q : W → Hp → List Addr → Hp → Prop} (h : Outc N Y σ Z c H (op1 f w st) Q) : ∃ a r, vw st w = some a ∧ f a = some r ∧ Outc N Y σ Z c H (Res.ok (W.v r) st) Q := by
  unfold op1 at h
  cases e : vw st w with
  | none => rw [e] at h; exact h.elim
  | some a =>
    rw [e] at h
    cases e2 : f a with
    | none => simp only [Option.bind_some, e2] at h; exact h.elim
    | some r => simp only [Option.bind_some, e2] at h; exact ⟨a, r, rfl, e2, h⟩
theorem op2_ok {f : A → A → Option A} {w u st} {Y : WX} {σ Z c H} {Q : PV.W → Hp → List Addr → Hp → Prop} (h : Outc N Y σ Z c H (op2 f w u st) Q) : ∃ a b r, vw st w = some a ∧ vw st u = some b ∧ f a b = some r ∧ Outc N Y σ Z c H (Res.ok (W.v r) st) Q := by
  unfold op2 at h
  cases e : vw st w with
  | none => rw [e] at h; exact h.elim
  | some a =>
    cases e1 : vw st u with
    | none => rw [e, e1] at h; exact h.elim
    | some b =>
      rw [e, e1] at h
      cases e2 : f a b with
      | none => simp only [Option.bind_some, e2] at h; exact h.elim
      | some r => simp only [Option.bind_some, e2] at h; exact ⟨a, b, r, rfl, rfl, e2, h⟩
/-- two expressions in a row -/
theorem two {a b : Expr} {x y : Ex} (ha : SndE N O X a x) (hb : SndE N O X b y) {Y : WX} (tk : Takes X Y) {env st σ Z c H} (R : RelH N Z c st H) (E : RelE N Z c env σ) {β : Type} {g : PV.W → PV.W → Sto → Res β} {Q : β → Hp → List Addr → Hp → Prop} {T : V → V → Hp → Prop}
    (h : Outc N Y σ Z c H ((x O env st).bind fun w st1 => (y O env st1).bind fun u st2 => g w u st2) Q)
    (k : ∀ w u st2 Z2 c2 H2 v v', Ext Z c H Z2 c2 H2 → RelH N Z2 c2 st2 H2 → RpW N Z2 c2 w v → RpW N Z2 c2 u v' → Outc N Y σ Z2 c2 H2 (g w u st2) Q → T v v' H2) :
    WE X a σ H fun v H1 => WE X b σ H1 fun v' H2 => T v v' H2 := by
  refine ha Y tk env st σ Z c H R E _ (Outc.mono h.bind (Ext.refl ..) fun w Z1 c1 H1 _ ⟨st1, R1, x1, h1⟩ v rv => ?_)
  refine hb Y tk env st1 σ Z1 c1 H1 R1 (E.mono x1) _ (Outc.mono h1.bind (Ext.refl ..) fun u Z2 c2 H2 _ ⟨st2, R2, x2, h2⟩ v' rv' => ?_)
  exact k w u st2 Z2 c2 H2 v v' (x1.trans x2) R2 (rv.mono x2) rv' h2
theorem snd_bin {op : Operator} {f : A → A → Option A} {a b : Expr} {x y : Ex} {pos : Pos} (hf : Val2 N X (binaryOp op) f) (ha : SndE N O X a x) (hb : SndE N O X b y) : SndE N O X (.BinOp a op b pos) (eOp2 f x y) := by
  intro Y tk env st σ Z c H R E Q h pins s I
  refine wpAny_BinOp (bin (WE.pe X a) (WE.pe X b) I (two ha hb tk R E h (T := fun v v' H2 => ∃ w u st2 Z2 c2, RelH N Z2 c2 st2 H2 ∧ RpW N Z2 c2 w v ∧ RpW N Z2 c2 u v' ∧ Outc N Y σ Z2 c2 H2 (op2 f w u st2) fun w Z' c' H' => ∀ v, RpW N Z' c' w v → Q v H') fun w u st2 Z2 c2 H2 v v' _ R2 r1 r2 q => ⟨w, u, st2, Z2, c2, R2, r1, r2, q⟩) ?_)
  rintro v u s2 xv yv H2 I2 rx ry ⟨w1, w2, st2, Z2, c2, R2, r1, r2, q⟩
  obtain ⟨a1, a2, r, e1, e2, e3, q⟩ := op2_ok q
  exact thn (hf pins s2 σ Z2 c2 st2 H2 a1 xv v a2 yv u r I2 R2 (vw_ok R2 r1 e1) rx (vw_ok R2 r2 e2) ry e3) fun res s3 p => p.ep q
theorem snd_un {op : UnaryOp} {f : A → Option A} {a : Expr} {x : Ex} {pos : Pos} (hf : Val1 N X (unaryOp op) f) (ha : SndE N O X a x) : SndE N O X (.UnaryOp op a pos) (eOp1 f x) := by
  intro Y tk env st σ Z c H R E Q h pins s I
  refine UnaryOp_ (thn (ha Y tk env st σ Z c H R E (fun v H1 => ∃ w st1 Z1 c1, RelH N Z1 c1 st1 H1 ∧ RpW N Z1 c1 w v ∧ Outc N Y σ Z1 c1 H1 (op1 f w st1) fun w Z' c' H' => ∀ v, RpW N Z' c' w v → Q v H')
    (Outc.mono h.bind (Ext.refl ..) fun w Z1 c1 H1 _ ⟨st1, R1, x1, h1⟩ v rv => ⟨w, st1, Z1, c1, R1, rv, h1⟩) pins s I) ?_)
  rintro v s1 ⟨xv, H1, I1, rx, w, st1, Z1, c1, R1, rv, q⟩
  obtain ⟨a1, r, e1, e2, q⟩ := op1_ok q
  exact thn (hf pins s1 σ Z1 c1 st1 H1 a1 xv v r I1 R1 (vw_ok R1 rv e1) rx e2) fun res s3 p => p.ep q
theorem snd_cmp {op : CmpOp} {f : A → A → Option A} {a b : Expr} {x y : Ex} {pos : Pos} (hf : Val2 N X (compareOp op) f) (hm : behindInMarks op b = false) (ha : SndE N O X a x) (hb : SndE N O X b y) : SndE N O X (.Compare a [op] [b] pos) (eOp2 f x y) := by
  intro Y tk env st σ Z c H R E Q h pins s I
  refine wpAny_Compare1 (bin (WE.pe X a) (WE.pe X b) I (two ha hb tk R E h (T := fun v v' H2 => ∃ w u st2 Z2 c2, RelH N Z2 c2 st2 H2 ∧ RpW N Z2 c2 w v ∧ RpW N Z2 c2 u v' ∧ Outc N Y σ Z2 c2 H2 (op2 f w u st2) fun w Z' c' H' => ∀ v, RpW N Z' c' w v → Q v H') fun w u st2 Z2 c2 H2 v v' _ R2 r1 r2 q => ⟨w, u, st2, Z2, c2, R2, r1, r2, q⟩) ?_) hm
  rintro v u s2 xv yv H2 I2 rx ry ⟨w1, w2, st2, Z2, c2, R2, r1, r2, q⟩
  obtain ⟨a1, a2, r, e1, e2, e3, q⟩ := op2_ok q
  exact thn (hf pins s2 σ Z2 c2 st2 H2 a1 xv v a2 yv u r I2 R2 (vw_ok R2 r1 e1) rx (vw_ok R2 r2 e2) ry e3) fun res s3 p => p.ep q

/-! ### truth -/
theorem truth_ok (F : Fit N X) {pins s σ Z c st H w v u b} (I : Inv X pins σ H s) (R : RelH N Z c st H) (rw' : RpW N Z c w v) (ru : RelV v u) (h : (vw st w).bind A.truth = some b) :
    wpAny (model X.prog X.w) X.A (truthy u) (fun b' s' => b' = b ∧ Inv X pins σ H s') X.xe s := by
  cases e : vw st w with
  | none => rw [e] at h; cases h
  | some a =>
    rw [e] at h
    have h : a.truth = some b := h
    have q := vw_ok R rw' e
    refine thn (tru_ok pins s σ H v u (fun b' H' => b' = b ∧ H' = H) I ru ⟨b, ?_, rfl, rfl⟩) ?_
    · cases a with
      | non => cases q; cases h; rfl
      | bl b => cases q; cases h; rfl
      | int i => cases q; cases h; rfl
      | str l =>
        cases q
        simp only [A.truth] at h
        split at h
        · rename_i hl
          cases h
          refine ⟨by rw [S_len, sizeLine_eq]; exact hl, ?_⟩
          rw [S_len]
          cases l with
          | nil => rfl
          | cons a l =>
            have h1 : ((((a :: l).length : Nat) : Int) != 0) = true := bne_iff_ne.mpr (by simp only [List.length_cons]; omega)
            rw [h1]; rfl
        · cases h
      | tup l =>
        cases q with
        | tup q r =>
          cases h
          exact .inr (.inl ⟨_, F.sqT (R.sub.sqT q), by cases r <;> rfl⟩)
      | lst l =>
        obtain ⟨p, vs, rfl, q, r⟩ := q
        cases h
        exact .inl ⟨_, F.sqL q, by cases r <;> rfl⟩
      | _ => cases h
    · rintro b' s' ⟨H', I', rfl, rfl⟩
      exact ⟨rfl, I'⟩
theorem truthW_ok {w st} {Y : WX} {σ Z c H} {Q : Bool → Hp → List Addr → Hp → Prop} (h : Outc N Y σ Z c H (truthW w st) Q) (R : RelH N Z c st H) : ∃ b, (vw st w).bind A.truth = some b ∧ Q b Z c H := by
  unfold truthW at h
  exact Outc.of h R
def plainTest (e : Expr) : Bool := match e with
  | .BoolOp .. => false
  | .UnaryOp .Not _ _ => false
  | .Compare .. => false
  | .IfExp .. => false
  | _ => true
theorem test_plain {e : Expr} (h : plainTest e = true) (env : PySem.Env) (whole : Sem Value) : isTrue e env whole = (do let v ← whole; standAt e.pos; holding [v] (truthy v)) := by
  cases e with
  | UnaryOp op a p => cases op with
    | Not => cases h
    | _ => rfl
  | BoolOp op a p => cases h
  | Compare a b c d => cases h
  | IfExp a b c d => cases h
  | _ => rfl
theorem snd_test {e : Expr} {x : Ex} (F : Fit N X) (hp : plainTest e = true) (he : SndE N O X e x) : SndT N O X e (tEx x) := by
  intro Y tk env st σ Z c H R E Q h pins s I
  refine isTrue_plain (thn (he Y tk env st σ Z c H R E (fun v H1 => ∃ w st1 Z1 c1, RelH N Z1 c1 st1 H1 ∧ RpW N Z1 c1 w v ∧ Outc N Y σ Z1 c1 H1 (truthW w st1) fun b _ _ H' => Q b H')
    (Outc.mono h.bind (Ext.refl ..) fun w Z1 c1 H1 _ ⟨st1, R1, x1, h1⟩ v rv => ⟨w, st1, Z1, c1, R1, rv, h1⟩) pins s I) ?_) (test_plain hp _ _)
  rintro v s1 ⟨xv, H1, I1, rx, w, st1, Z1, c1, R1, rv, q⟩
  obtain ⟨b, e1, q⟩ := truthW_ok q R1
  refine thn (truth_ok F I1 R1 rv rx e1) ?_
  rintro b' s2 ⟨rfl, I2⟩
  exact ⟨H1, I2, q⟩
/-- a comparison as a test -/
theorem snd_tcmp {op : CmpOp} {f : A → A → Option A} {a b : Expr} {x y : Ex} {pos : Pos} (F : Fit N X) (hf : Val2 N X (compareOp op) f) (hb' : ∀ u v r, f u v = some r → ∃ k, r = .bl k) (hm : behindInMarks op b = false) (ha : SndE N O X a x) (hb : SndE N O X b y) : SndT N O X (.Compare a [op] [b] pos) (tEx (eOp2 f x y)) := by
  intro Y tk env st σ Z c H R E Q h pins s I
  have h1 : Outc N Y σ Z c H ((x O env st).bind fun w st1 => (y O env st1).bind fun u st2 => (op2 f w u st2).bind fun a st3 => truthW a st3) fun b _ _ H' => Q b H' := by
    have h2 : Outc N Y σ Z c H ((eOp2 f x y O env st).bind fun a st3 => truthW a st3) fun b _ _ H' => Q b H' := h
    unfold eOp2 at h2
    cases e1 : x O env st with
    | ok w st1 =>
      rw [e1] at h2
      simp only [bind_ok] at h2 ⊢
      cases e2 : y O env st1 with
      | ok u st2 => rw [e2] at h2; exact h2
      | exc _ _ _ => rw [e2] at h2; exact h2
      | bad => rw [e2] at h2; exact h2
    | exc _ _ _ => rw [e1] at h2; exact h2
    | bad => rw [e1] at h2; exact h2
  refine wpAny_isTrue_Compare1 (bin (WE.pe X a) (WE.pe X b) I (two ha hb tk R E h1 (T := fun v v' H2 => ∃ w u st2 Z2 c2, RelH N Z2 c2 st2 H2 ∧ RpW N Z2 c2 w v ∧ RpW N Z2 c2 u v' ∧ Outc N Y σ Z2 c2 H2 ((op2 f w u st2).bind fun a st3 => truthW a st3) fun b _ _ H' => Q b H') fun w u st2 Z2 c2 H2 v v' _ R2 r1 r2 q => ⟨w, u, st2, Z2, c2, R2, r1, r2, q⟩) ?_) hm
  rintro v u s2 xv yv H2 I2 rx ry ⟨w1, w2, st2, Z2, c2, R2, r1, r2, q⟩
  obtain ⟨a1, a2, r, e1, e2, e3, q⟩ := op2_ok q.bind
  obtain ⟨k, rfl⟩ := hb' _ _ _ e3
  refine thn (hf pins s2 σ Z2 c2 st2 H2 a1 xv v a2 yv u _ I2 R2 (vw_ok R2 r1 e1) rx (vw_ok R2 r2 e2) ry e3) ?_
  rintro res s3 ⟨Z3, H3, v3, I3, x3, R3, rv3, q3⟩
  cases q3
  cases rv3
  obtain ⟨st4, R4, x4, q4⟩ := q Z3 c2 H3 x3 R3
  obtain ⟨b', e4, q5⟩ := truthW_ok q4 R4
  cases e4
  exact wpAny_truthy_bool ⟨H3, I3, q5⟩
/-! ### and, or, not, if -/
theorem snd_one {op} {a : Expr} {x : Ex} {pos : Pos} (ha : SndE N O X a x) : SndE N O X (.BoolOp op [a] pos) x := by
  intro Y tk env st σ Z c H R E Q h
  exact WE.of (pe_one (WE.pe X a)) (ha Y tk env st σ Z c H R E Q h)
theorem snd_and {a b : Expr} {rest : List Expr} {x y : Ex} {pos : Pos} (F : Fit N X) (ha : SndE N O X a x) (hb : SndE N O X (.BoolOp .And (b :: rest) pos) y) : SndE N O X (.BoolOp .And (a :: b :: rest) pos) (eAnd x y) := by
  intro Y tk env st σ Z c H R E Q h pins s I
  refine BoolOp_and (thn (ha Y tk env st σ Z c H R E (fun v H1 => ∃ w st1 Z1 c1, RelH N Z1 c1 st1 H1 ∧ Ext Z c H Z1 c1 H1 ∧ RpW N Z1 c1 w v ∧ Outc N Y σ Z1 c1 H1 ((truthW w st1).bind fun b st2 => if b then y O env st2 else .ok w st2) fun w Z' c' H' => ∀ v, RpW N Z' c' w v → Q v H')
    (Outc.mono h.bind (Ext.refl ..) fun w Z1 c1 H1 _ ⟨st1, R1, x1, h1⟩ v rv => ⟨w, st1, Z1, c1, R1, x1, rv, h1⟩) pins s I) ?_)
  rintro v s1 ⟨xv, H1, I1, rx, w, st1, Z1, c1, R1, x1, rv, q⟩
  obtain ⟨b', e1, st2, R2, _, q⟩ := truthW_ok q.bind R1
  refine thn (truth_ok F I1 R1 rv rx e1) ?_
  rintro b2 s2 ⟨rfl, I2⟩
  cases b2 with
  | true => exact hb Y tk env st2 σ Z1 c1 H1 R2 (E.mono x1) Q q pins s2 I2
  | false => exact ⟨xv, H1, I2, rx, q.okk R2 xv rv⟩
theorem snd_or {a b : Expr} {rest : List Expr} {x y : Ex} {pos : Pos} (F : Fit N X) (ha : SndE N O X a x) (hb : SndE N O X (.BoolOp .Or (b :: rest) pos) y) : SndE N O X (.BoolOp .Or (a :: b :: rest) pos) (eOr x y) := by
  intro Y tk env st σ Z c H R E Q h pins s I
  refine BoolOp_or (thn (ha Y tk env st σ Z c H R E (fun v H1 => ∃ w st1 Z1 c1, RelH N Z1 c1 st1 H1 ∧ Ext Z c H Z1 c1 H1 ∧ RpW N Z1 c1 w v ∧ Outc N Y σ Z1 c1 H1 ((truthW w st1).bind fun b st2 => if b then .ok w st2 else y O env st2) fun w Z' c' H' => ∀ v, RpW N Z' c' w v → Q v H')
    (Outc.mono h.bind (Ext.refl ..) fun w Z1 c1 H1 _ ⟨st1, R1, x1, h1⟩ v rv => ⟨w, st1, Z1, c1, R1, x1, rv, h1⟩) pins s I) ?_)
  rintro v s1 ⟨xv, H1, I1, rx, w, st1, Z1, c1, R1, x1, rv, q⟩
  obtain ⟨b', e1, st2, R2, _, q⟩ := truthW_ok q.bind R1
  refine thn (truth_ok F I1 R1 rv rx e1) ?_
  rintro b2 s2 ⟨rfl, I2⟩
  cases b2 with
  | true => exact ⟨xv, H1, I2, rx, q.okk R2 xv rv⟩
  | false => exact hb Y tk env st2 σ Z1 c1 H1 R2 (E.mono x1) Q q pins s2 I2
theorem snd_not {a : Expr} {x : Ex} {pos : Pos} (F : Fit N X) (ha : SndE N O X a x) : SndE N O X (.UnaryOp .Not a pos) (eNot x) := by
  intro Y tk env st σ Z c H R E Q h pins s I
  refine UnaryOp_ (thn (ha Y tk env st σ Z c H R E (fun v H1 => ∃ w st1 Z1 c1, RelH N Z1 c1 st1 H1 ∧ Ext Z c H Z1 c1 H1 ∧ RpW N Z1 c1 w v ∧ Outc N Y σ Z1 c1 H1 ((truthW w st1).bind fun b st2 => .ok (PV.W.v (.bl (!b))) st2) fun w Z' c' H' => ∀ v, RpW N Z' c' w v → Q v H')
    (Outc.mono h.bind (Ext.refl ..) fun w Z1 c1 H1 _ ⟨st1, R1, x1, h1⟩ v rv => ⟨w, st1, Z1, c1, R1, x1, rv, h1⟩) pins s I) ?_)
  rintro v s1 ⟨xv, H1, I1, rx, w, st1, Z1, c1, R1, x1, rv, q⟩
  obtain ⟨b', e1, st2, R2, _, q⟩ := truthW_ok q.bind R1
  refine not_of (thn (truth_ok F I1 R1 rv rx e1) ?_)
  rintro b2 s2 ⟨rfl, I2⟩
  exact ⟨.bl (!b2), H1, I2, rfl, q.okk R2 _ (.bl _)⟩
theorem snd_ifx {t a b : Expr} {k : Te} {x y : Ex} {pos : Pos} (ht : SndT N O X t k) (ha : SndE N O X a x) (hb : SndE N O X b y) : SndE N O X (.IfExp t a b pos) (eIf k x y) := by
  intro Y tk env st σ Z c H R E Q h
  refine WE.of (pe_ifExp (WT.pt X t) (WE.pe X a) (WE.pe X b)) ?_
  refine ht Y tk env st σ Z c H R E _ (Outc.mono h.bind (Ext.refl ..) fun b Z1 c1 H1 _ ⟨st1, R1, x1, h1⟩ => ?_)
  cases b with
  | true => exact ha Y tk env st1 σ Z1 c1 H1 R1 (E.mono x1) Q h1
  | false => exact hb Y tk env st1 σ Z1 c1 H1 R1 (E.mono x1) Q h1
theorem snd_tnot {a : Expr} {k : Te} {pos : Pos} (ha : SndT N O X a k) : SndT N O X (.UnaryOp .Not a pos) (tNot k) := by
  intro Y tk env st σ Z c H R E Q h
  exact WT.of (L2.pt_not (WT.pt X a)) (ha Y tk env st σ Z c H R E _ (Outc.mono h.bind (Ext.refl ..) fun b Z1 c1 H1 _ ⟨st1, R1, x1, h1⟩ => h1.okk R1))
theorem snd_wand1 {a : Expr} {k : Te} {pos : Pos} (ha : SndT N O X a k) : SndW N O X (.BoolOp .And [a] pos) k := by
  intro Y tk env st σ Z c H R E Q h
  exact WW.of (pw_and1 (WT.pt X a)) (ha Y tk env st σ Z c H R E Q h)
theorem snd_wor1 {a : Expr} {k : Te} {pos : Pos} (ha : SndT N O X a k) : SndW N O X (.BoolOp .Or [a] pos) k := by
  intro Y tk env st σ Z c H R E Q h
  exact WW.of (pw_or1 (WT.pt X a)) (ha Y tk env st σ Z c H R E Q h)
theorem snd_wand {a b : Expr} {rest : List Expr} {k l : Te} {pos : Pos} (ha : SndT N O X a k) (hb : SndW N O X (.BoolOp .And (b :: rest) pos) l) : SndW N O X (.BoolOp .And (a :: b :: rest) pos) (PV.tAnd k l) := by
  intro Y tk env st σ Z c H R E Q h
  refine WW.of (pw_and (WT.pt X a) (WW.pw X _)) (ha Y tk env st σ Z c H R E _ (Outc.mono h.bind (Ext.refl ..) fun b Z1 c1 H1 _ ⟨st1, R1, x1, h1⟩ => ?_))
  cases b with
  | true => exact hb Y tk env st1 σ Z1 c1 H1 R1 (E.mono x1) Q h1
  | false => exact h1.okk R1
theorem snd_wor {a b : Expr} {rest : List Expr} {k l : Te} {pos : Pos} (ha : SndT N O X a k) (hb : SndW N O X (.BoolOp .Or (b :: rest) pos) l) : SndW N O X (.BoolOp .Or (a :: b :: rest) pos) (PV.tOr k l) := by
  intro Y tk env st σ Z c H R E Q h
  refine WW.of (pw_or (WT.pt X a) (WW.pw X _)) (ha Y tk env st σ Z c H R E _ (Outc.mono h.bind (Ext.refl ..) fun b Z1 c1 H1 _ ⟨st1, R1, x1, h1⟩ => ?_))
  cases b with
  | true => exact h1.okk R1
  | false => exact hb Y tk env st1 σ Z1 c1 H1 R1 (E.mono x1) Q h1
theorem SndW.t {e : Expr} {k : Te} (h : SndW N O X e k) : SndT N O X e k := fun Y tk env st σ Z c H R E Q q => (h Y tk env st σ Z c H R E Q q).wt

/-! ### displays -/
theorem snd_anil : SndA N O X [] esNil := by
  intro Y tk env st σ Z c H R E Q h
  exact WA.of pa_nil (h.okk R [] .nil)
def isStar : Expr → Bool
  | .Starred .. => true
  | _ => false
theorem star_no {e : Expr} (h : isStar e = false) (es : List Expr) (env : PySem.Env) : starEach (e :: es) env = (false, eval e env) :: starEach es env := by
  cases e <;> first | rfl | cases h
theorem snd_acons {e : Expr} {es : List Expr} {x : Ex} {xs : Es} (hs : isStar e = false) (ha : SndE N O X e x) (hb : SndA N O X es xs) : SndA N O X (e :: es) (esCons x xs) := by
  intro Y tk env st σ Z c H R E Q h
  refine WA.of (pa_cons (WE.pe X e) (WA.pa X es) (star_no hs _ _)) (ha Y tk env st σ Z c H R E _ (Outc.mono h.bind (Ext.refl ..) fun w Z1 c1 H1 _ ⟨st1, R1, x1, h1⟩ v rv => ?_))
  refine hb Y tk env st1 σ Z1 c1 H1 R1 (E.mono x1) _ (Outc.mono h1.bind (Ext.refl ..) fun l Z2 c2 H2 _ ⟨st2, R2, x2, h2⟩ vs rvs => ?_)
  exact h2.okk R2 (v :: vs) (.cons (rv.mono x2) rvs)
theorem vals_rp {Z c} : ∀ {l : List PV.W} {vs m}, RpWs N Z c l vs → vals l = some m → RpL N Z m vs
  | [], _, m, .nil, h => by cases h; exact .nil
  | w :: l, _, m, .cons a r, h => by
    unfold vals at h
    cases w with
    | v a' =>
      cases e : vals l with
      | none => simp [e] at h
      | some m' =>
        simp [e] at h
        subst h
        exact .cons a (vals_rp r e)
    | cel _ => simp [PV.W.val] at h
    | lam _ _ => simp [PV.W.val] at h
theorem snd_tup {es : List Expr} {xs : Es} {k pos} (ha : SndA N O X es xs) : SndE N O X (.Tuple es k pos) (eTup xs) := by
  intro Y tk env st σ Z c H R E Q h
  refine WE.of (pe_tup (WA.pa X es)) (ha Y tk env st σ Z c H R E _ (Outc.mono h.bind (Ext.refl ..) fun l Z1 c1 H1 _ ⟨st1, R1, x1, h1⟩ vs rvs => ?_))
  unfold disp at h1
  cases e : vals l with
  | none => rw [e] at h1; exact h1.elim
  | some m =>
    rw [e] at h1
    have rl := vals_rp rvs e
    by_cases hm : m.length ≤ Sz
    · simp only [if_pos hm] at h1
      refine ⟨by rw [← rl.length, sizeLine_eq]; exact hm, fun p hp => ?_⟩
      obtain ⟨x2, R2⟩ := ext_new (o := .tup vs) R1 hp
      exact h1 _ _ _ x2 R2 (.ref p) (.tup (SqT.of upd_same) (rl.mono x2.zz))
    · simp only [if_neg hm] at h1
      exact h1.elim
/-- a list just made: nobody else knows it -/
def FreshL (N : Nm) (Z : Hp) (c : List Addr) (l : List A) (H0 : Hp) (p : Addr) (H : Hp) : Prop := ∃ vs, H0 p = none ∧ H = upd H0 p (.lst vs) ∧ RpL N Z l vs
theorem snd_lst {es : List Expr} {xs : Es} {pos} (ha : SndA N O X es xs) : SndE N O X (.List es pos) (eLst xs) := by
  intro Y tk env st σ Z c H R E Q h
  refine WE.of (pe_lst (WA.pa X es)) (ha Y tk env st σ Z c H R E _ (Outc.mono h.bind (Ext.refl ..) fun l Z1 c1 H1 _ ⟨st1, R1, x1, h1⟩ vs rvs => ?_))
  unfold disp at h1
  cases e : vals l with
  | none => rw [e] at h1; exact h1.elim
  | some m =>
    rw [e] at h1
    have rl := vals_rp rvs e
    by_cases hm : m.length ≤ Sz
    · simp only [if_pos hm] at h1
      refine ⟨by rw [← rl.length, sizeLine_eq]; exact hm, fun p hp => ?_⟩
      obtain ⟨x2, R2⟩ := ext_new (o := .lst vs) R1 hp
      exact h1 _ _ _ x2 R2 (.ref p) (.lst (SqL.of upd_same) (rl.mono x2.zz))
    · simp only [if_neg hm] at h1
      exact h1.elim
end
end PV
end
section
set_option linter.all false
set_option Elab.async false
set_option maxRecDepth 100000
set_option maxHeartbeats 4000000
/-! PV3: statements, targets, loops, comprehensions. -/
namespace PV
open PySem PySem.Spec PyProof.Rows L2

def OutS (N : Nm) (Y : WX) (Z : Hp) (c : List Addr) (H : Hp) (D : Ends) : SRes → Prop
  | .nx e st => ∀ Z' c' H' σ', Ext Z c H Z' c' H' → RelH N Z' c' st H' → RelE N Z' c' e σ' → D.nx σ' H'
  | .bk e st => ∀ Z' c' H' σ', Ext Z c H Z' c' H' → RelH N Z' c' st H' → RelE N Z' c' e σ' → D.bk σ' H'
  | .ct e st => ∀ Z' c' H' σ', Ext Z c H Z' c' H' → RelH N Z' c' st H' → RelE N Z' c' e σ' → D.ct σ' H'
  | .rt w st => ∀ Z' c' H' v, Ext Z c H Z' c' H' → RelH N Z' c' st H' → RpW N Z' c' w v → D.rt v H'
  | .exc k fs e st => ∀ Z' c' H' σ' cls d, Ext Z c H Z' c' H' → RelH N Z' c' st H' → RelE N Z' c' e σ' → ExcR N Z' k fs cls d H' → Y cls d σ' H'
  | .bad => False
section
variable {N : Nm} {Y : WX} {Z : Hp} {c : List Addr} {H : Hp} {D : Ends}
theorem OutS.mono {r : SRes} (h : OutS N Y Z c H D r) {Z1 c1 H1} (x : Ext Z c H Z1 c1 H1) : OutS N Y Z1 c1 H1 D r := by
  cases r with
  | nx e st => exact fun Z' c' H' σ' x' => h Z' c' H' σ' (x.trans x')
  | bk e st => exact fun Z' c' H' σ' x' => h Z' c' H' σ' (x.trans x')
  | ct e st => exact fun Z' c' H' σ' x' => h Z' c' H' σ' (x.trans x')
  | rt e st => exact fun Z' c' H' σ' x' => h Z' c' H' σ' (x.trans x')
  | exc k fs e st => exact fun Z' c' H' σ' cls d x' => h Z' c' H' σ' cls d (x.trans x')
  | bad => exact h
theorem OutS.to {α : Type} {r : Res α} {env : Env} {σ : Sl} {f : α → Sto → SRes} (E : RelE N Z c env σ) (h : OutS N Y Z c H D (r.to env f)) :
    Outc N Y σ Z c H r fun a Z1 c1 H1 => ∃ st1, RelH N Z1 c1 st1 H1 ∧ Ext Z c H Z1 c1 H1 ∧ OutS N Y Z1 c1 H1 D (f a st1) := by
  cases r with
  | ok a st => exact fun Z1 c1 H1 x1 R1 => ⟨st, R1, x1, OutS.mono h x1⟩
  | exc k fs st => exact fun Z' c' H' cls d x' R' e => h Z' c' H' σ cls d x' R' (E.mono x') e
  | bad => exact h
end

def WS (X : Cx) (t : Stmt) (σ : Sl) (H : Hp) (D : Ends) : Prop := ∀ (pins : List (Addr × Obj)) (s : Shared), Inv X pins σ H s → wpAny (model X.prog X.w) X.A (exec t X.env) (SP X pins D) X.xe s
def WSs (X : Cx) (t : List Stmt) (σ : Sl) (H : Hp) (D : Ends) : Prop := ∀ (pins : List (Addr × Obj)) (s : Shared), Inv X pins σ H s → wpAny (model X.prog X.w) X.A (execs t X.env) (SP X pins D) X.xe s
def WG (X : Cx) (t : Expr) (v : V) (σ : Sl) (H : Hp) (Q : Sl → Hp → Prop) : Prop := ∀ (pins : List (Addr × Obj)) (s : Shared) (u : Value), Inv X pins σ H s → RelV v u → wpAny (model X.prog X.w) X.A (assign t X.env u) (fun _ s' => ∃ σ' H', Inv X pins σ' H' s' ∧ Q σ' H') X.xe s
def WGs (X : Cx) (ts : List Expr) (vs : List V) (σ : Sl) (H : Hp) (Q : Sl → Hp → Prop) : Prop := ∀ (pins : List (Addr × Obj)) (s : Shared) (us : List Value), Inv X pins σ H s → Vals vs us → wpAny (model X.prog X.w) X.A (assignInOrder ((assignEach ts X.env).map (·.2)) us) (fun _ s' => ∃ σ' H', Inv X pins σ' H' s' ∧ Q σ' H') X.xe s
def WI (X : Cx) (tg iter : Expr) (σ : Sl) (H : Hp) (R : L2.It → Hp → Prop) : Prop := ∀ (pins : List (Addr × Obj)) (s : Shared), Inv X pins σ H s → wpAny (model X.prog X.w) X.A (eval iter X.env) (fun v s1 => wpAny (model X.prog X.w) X.A (pyIter v) (PIE X pins σ tg R) X.xe s1) X.xe s
theorem WS.ps (X : Cx) (t : Stmt) : PS X t (fun D σ H => WS X t σ H D) := ⟨fun pins s σ H D I h => h pins s I⟩
theorem WSs.ps (X : Cx) (t : List Stmt) : PSs X t (fun D σ H => WSs X t σ H D) := ⟨fun pins s σ H D I h => h pins s I⟩
theorem WG.pg (X : Cx) (t : Expr) : PG X t (WG X t) := ⟨fun pins s σ H v u Q I r h => h pins s u I r⟩
theorem WGs.pg (X : Cx) (ts : List Expr) : PGs X ts (WGs X ts) := ⟨fun pins s σ H vs us Q I r h => h pins s us I r⟩
theorem WI.pi (X : Cx) (tg iter : Expr) : PI X tg iter (WI X tg iter) := ⟨fun pins s σ H R I h => h pins s I⟩
theorem WS.of {X : Cx} {t : Stmt} {τ : TS} (h : PS X t τ) {D σ H} (q : τ D σ H) : WS X t σ H D := fun pins s I => h.run pins s σ H D I q
theorem WSs.of {X : Cx} {t : List Stmt} {τ : TS} (h : PSs X t τ) {D σ H} (q : τ D σ H) : WSs X t σ H D := fun pins s I => h.run pins s σ H D I q
theorem WG.of {X : Cx} {t : Expr} {τ : TG} (h : PG X t τ) {v σ H Q} (q : τ v σ H Q) : WG X t v σ H Q := fun pins s u I r => h.run pins s σ H v u Q I r q
theorem WGs.of {X : Cx} {t : List Expr} {τ : TGs} (h : PGs X t τ) {v σ H Q} (q : τ v σ H Q) : WGs X t v σ H Q := fun pins s u I r => h.run pins s σ H v u Q I r q

def SndS (N : Nm) (O : Orc) (X : Cx) (t : Stmt) (m : Stm) : Prop := ∀ (Y : WX), Takes X Y → ∀ env st σ Z c H, RelH N Z c st H → RelE N Z c env σ → ∀ D : Ends, OutS N Y Z c H D (m O env st) → WS X t σ H D
def SndSs (N : Nm) (O : Orc) (X : Cx) (t : List Stmt) (m : Stm) : Prop := ∀ (Y : WX), Takes X Y → ∀ env st σ Z c H, RelH N Z c st H → RelE N Z c env σ → ∀ D : Ends, OutS N Y Z c H D (m O env st) → WSs X t σ H D
/-- the same but for these slots -/
def Off (l : List Nat) (σ σ' : Sl) : Prop := ∀ own : List Nat, (∀ i ∈ l, i ∈ own) → L2.wipe σ' own = L2.wipe σ own
def SndG (N : Nm) (X : Cx) (t : Expr) (g : Tg) : Prop := ∀ a v env env' st σ Z c H, RelH N Z c st H → RelE N Z c env σ → Rp N Z a v → g.put a env = some env' → ∀ Q : Sl → Hp → Prop, (∀ σ', RelE N Z c env' σ' → Off g.slots σ σ' → Q σ' H) → WG X t v σ H Q
def SndGs (N : Nm) (X : Cx) (ts : List Expr) (gs : List Tg) : Prop := ∀ l vs env env' st σ Z c H, RelH N Z c st H → RelE N Z c env σ → RpL N Z l vs → Tg.puts gs l env = some env' → ∀ Q : Sl → Hp → Prop, (∀ σ', RelE N Z c env' σ' → Off (Tg.slotsL gs) σ σ' → Q σ' H) → WGs X ts vs σ H Q
theorem wipe_comm (σ : Sl) (i : Nat) : ∀ own : List Nat, L2.wipe (σ.set i none) own = (L2.wipe σ own).set i none
  | [] => rfl
  | j :: own => by
    show (L2.wipe (σ.set i none) own).set j none = ((L2.wipe σ own).set j none).set i none
    rw [wipe_comm σ i own]
    by_cases h : i = j
    · subst h; rfl
    · rw [List.set_comm _ _ h]
theorem wipe_set (σ : Sl) (i : Nat) (x : Option V) : ∀ own : List Nat, i ∈ own → L2.wipe (σ.set i x) own = L2.wipe σ own
  | j :: own, h => by
    show (L2.wipe (σ.set i x) own).set j none = (L2.wipe σ own).set j none
    by_cases hj : i = j
    · subst hj
      by_cases hi : i ∈ own
      · rw [wipe_set σ i x own hi]
      · rw [← wipe_comm, ← wipe_comm, List.set_set]
    · rcases List.mem_cons.mp h with e | e
      · exact absurd e hj
      · rw [wipe_set σ i x own e]
theorem wipe_idem (σ : Sl) : ∀ own own' : List Nat, (∀ i ∈ own', i ∈ own) → L2.wipe (L2.wipe σ own') own = L2.wipe σ own
  | own, [], _ => rfl
  | own, i :: own', h => by
    show L2.wipe ((L2.wipe σ own').set i none) own = _
    rw [wipe_set _ _ _ _ (h i List.mem_cons_self), wipe_idem σ own own' fun j hj => h j (List.mem_cons_of_mem _ hj)]

/-- an iterator of these items, while ok stands -/
def WalkOk (N : Nm) (J : L2.It) (Z0 : Hp) (c0 : List Addr) (H0 : Hp) (items : List A) (ok : Sto → Bool) : Prop := ∀ i Z c st H, Ext0 Z0 c0 Z c → RelH N Z c st H → ok st = true →
  (∀ a, items[i]? = some a → J.go i H ∧ ∀ x H', J.yld i H x H' → ∃ Z', Ext Z c H Z' c H' ∧ RelH N Z' c st H' ∧ Rp N Z' a x) ∧ (i = items.length → J.stop i H)
def SndI (N : Nm) (O : Orc) (X : Cx) (tg iter : Expr) (it : PV.It) : Prop := ∀ (Y : WX), Takes X Y → ∀ env st σ Z c H, RelH N Z c st H → RelE N Z c env σ → ∀ R : L2.It → Hp → Prop,
  Outc N Y σ Z c H (it O env st) (fun p Z' c' H' => ∀ J, WalkOk N J Z' c' H' p.1 p.2 → p.1.length ≤ Sz → R J H') → WI X tg iter σ H R

section
variable {N : Nm} {O : Orc} {X : Cx}

/-! ### plain statements -/
theorem snds_nil : SndSs N O X [] sNil := by
  intro Y tk env st σ Z c H R E D h
  exact WSs.of pss_nil (h Z c H σ (Ext.refl ..) R E)
theorem snds_cons {a : Stmt} {rest : List Stmt} {m n : Stm} (ha : SndS N O X a m) (hb : SndSs N O X rest n) : SndSs N O X (a :: rest) (sSeq m n) := by
  intro Y tk env st σ Z c H R E D h
  refine WSs.of (pss_cons (WS.ps X a) (WSs.ps X rest)) (ha Y tk env st σ Z c H R E _ ?_)
  have h : OutS N Y Z c H D ((m O env st).seq (n O)) := h
  cases e : m O env st with
  | nx e1 st1 => rw [e] at h; exact fun Z' c' H' σ' x' R' E' => hb Y tk e1 st1 σ' Z' c' H' R' E' D (OutS.mono h x')
  | bk e1 st1 => rw [e] at h; exact h
  | ct e1 st1 => rw [e] at h; exact h
  | rt e1 st1 => rw [e] at h; exact h
  | exc k fs e1 st1 => rw [e] at h; exact h
  | bad => rw [e] at h; exact h
theorem snd_pass {pos} : SndS N O X (.Pass pos) sPass := fun Y tk env st σ Z c H R E D h => WS.of ps_pass (h Z c H σ (Ext.refl ..) R E)
theorem snd_break {pos} : SndS N O X (.Break pos) sBreak := fun Y tk env st σ Z c H R E D h => WS.of ps_break (h Z c H σ (Ext.refl ..) R E)
theorem snd_cont {pos} : SndS N O X (.Continue pos) sCont := fun Y tk env st σ Z c H R E D h => WS.of ps_continue (h Z c H σ (Ext.refl ..) R E)
def isComp : Expr → Bool
  | .ListComp .. => true
  | .SetComp .. => true
  | .DictComp .. => true
  | _ => false
theorem swaps_no {e : Expr} (h : isComp e = false) (t : Option Expr) (l : Nat) (env : PySem.Env) : swapsWith e t l env = pure false := by
  cases e <;> first | rfl | cases h
theorem snd_expr {e : Expr} {x : Ex} {pos : Pos} (hc : isComp e = false) (he : SndE N O X e x) : SndS N O X (.Expr e pos) (sEx x) := by
  intro Y tk env st σ Z c H R E D h
  refine WS.of (ps_expr (WE.pe X e) (swaps_no hc _ _ _)) (he Y tk env st σ Z c H R E _ (Outc.mono (OutS.to E h) (Ext.refl ..) fun w Z1 c1 H1 _ ⟨st1, R1, x1, h1⟩ v rv => ?_))
  exact h1 Z1 c1 H1 σ (Ext.refl ..) R1 (E.mono x1)
theorem snd_ret {e : Expr} {x : Ex} {pos : Pos} (he : SndE N O X e x) : SndS N O X (.Return (some e) pos) (sRet x) := by
  intro Y tk env st σ Z c H R E D h
  refine WS.of (ps_ret (WE.pe X e)) (he Y tk env st σ Z c H R E _ (Outc.mono (OutS.to E h) (Ext.refl ..) fun w Z1 c1 H1 _ ⟨st1, R1, x1, h1⟩ v rv => ?_))
  exact h1 Z1 c1 H1 v (Ext.refl ..) R1 rv
theorem snd_retN {pos} : SndS N O X (.Return none pos) sRetN := fun Y tk env st σ Z c H R E D h => WS.of ps_retN (h Z c H .non (Ext.refl ..) R .non)
theorem snd_if {t : Expr} {a b : List Stmt} {k : Te} {m n : Stm} {pos : Pos} (ht : SndT N O X t k) (ha : SndSs N O X a m) (hb : SndSs N O X b n) : SndS N O X (.If t a b pos) (sIf k m n) := by
  intro Y tk env st σ Z c H R E D h
  refine WS.of (ps_if (WT.pt X t) (WSs.ps X a) (WSs.ps X b)) (ht Y tk env st σ Z c H R E _ (Outc.mono (OutS.to E h) (Ext.refl ..) fun b' Z1 c1 H1 _ ⟨st1, R1, x1, h1⟩ => ?_))
  cases b' with
  | true => exact ha Y tk env st1 σ Z1 c1 H1 R1 (E.mono x1) D h1
  | false => exact hb Y tk env st1 σ Z1 c1 H1 R1 (E.mono x1) D h1

/-! ### targets -/
/-- a name that this frame stores -/
structure Own (X : Cx) (i : Nat) (x : PySem.Str) : Prop where
  ix : X.N[i]? = some x
  loc : Loc X.env.scope x
  fn : X.fn x = true ∨ X.env.scope.names.lookup x = some .local
theorem sndg_name (F : Fit N X) {i : Nat} {x : PySem.Str} {pos : Pos} (h : Own X i x) : SndG N X (.Name x pos) (.slot i) := by
  intro a v env env' st σ Z c H R E r hp Q hQ
  have hp : some (env.set i (some (.v a))) = some env' := hp
  cases hp
  exact WG.of (pg_name F.nd h.ix h.loc h.fn) (hQ _ (RelE.set (w := .v a) E r i) fun own ho => wipe_set _ _ _ _ (ho i (by simp [Tg.slots])))
theorem sndg_nil : SndGs N X [] [] := by
  intro l vs env env' st σ Z c H R E r hp Q hQ
  cases r with
  | nil =>
    have hp : some env = some env' := hp
    cases hp
    exact WGs.of pgs_nil ⟨rfl, hQ σ E fun _ _ => rfl⟩
  | cons _ _ => cases hp
def isStarT : Expr → Bool
  | .Starred .. => true
  | _ => false
theorem assign_each {e : Expr} (h : isStar e = false) (es : List Expr) (env : PySem.Env) : assignEach (e :: es) env = (false, assign e env) :: assignEach es env := by
  cases e <;> first | rfl | cases h
theorem sndg_cons {e : Expr} {es : List Expr} {g : Tg} {gs : List Tg} (hs : isStar e = false) (ha : SndG N X e g) (hb : SndGs N X es gs) : SndGs N X (e :: es) (g :: gs) := by
  intro l vs env env' st σ Z c H R E r hp Q hQ
  cases r with
  | nil => cases hp
  | @cons a v l vs ra rl =>
    have hp : (match g.put a env with | some e' => Tg.puts gs l e' | none => none) = some env' := hp
    cases e1 : g.put a env with
    | none => rw [e1] at hp; cases hp
    | some env1 =>
      rw [e1] at hp
      refine WGs.of (pgs_cons (WG.pg X e) (WGs.pg X es) (by rw [assign_each hs]; rfl)) ⟨v, vs, rfl, ?_⟩
      exact ha a v env env1 st σ Z c H R E ra e1 _ fun σ1 E1 o1 => hb l vs env1 env' st σ1 Z c H R E1 rl hp Q fun σ2 E2 o2 => hQ σ2 E2 fun own ho => by
        rw [o2 own fun i hi => ho i (by simp [Tg.slotsL, hi]), o1 own fun i hi => ho i (by simp [Tg.slotsL, hi])]
theorem each_len : ∀ (es : List Expr) (env : PySem.Env), (assignEach es env).length = es.length
  | [], _ => rfl
  | e :: es, env => by
    have := each_len es env
    cases e <;> simp [assignEach, this]
theorem each_nostar : ∀ (es : List Expr) (env : PySem.Env), es.all (fun e => !isStar e) = true → (assignEach es env).findIdx? (·.1) = none
  | [], _, _ => rfl
  | e :: es, env, h => by
    simp only [List.all_cons, Bool.and_eq_true, Bool.not_eq_true'] at h
    rw [assign_each h.1, List.findIdx?_cons]
    have := each_nostar es env (by simpa using h.2)
    simp [this]
theorem puts_len : ∀ {gs : List Tg} {l : List A} {env env' : Env}, Tg.puts gs l env = some env' → l.length = gs.length
  | [], [], _, _, _ => rfl
  | [], _ :: _, _, _, h => by cases h
  | _ :: _, [], _, _, h => by cases h
  | g :: gs, a :: l, env, env', h => by
    have h : (match g.put a env with | some e' => Tg.puts gs l e' | none => none) = some env' := h
    cases e1 : g.put a env with
    | none => rw [e1] at h; cases h
    | some env1 => rw [e1] at h; simp [puts_len h]
theorem sndg_tup (F : Fit N X) {es : List Expr} {k : Nat} {pos : Pos} {gs : List Tg} (hst : es.all (fun e => !isStar e) = true) (hl : es.length = gs.length) (h : SndGs N X es gs) : SndG N X (.Tuple es k pos) (.tup gs) := by
  intro a v env env' st σ Z c H R E r hp Q hQ
  cases r with
  | @tup l p vs q rl =>
    have hp : Tg.puts gs l env = some env' := hp
    refine WG.of (pg_tup (n := es.length) F.calm (WGs.pg X es) (each_len es X.env) (each_nostar es X.env hst)) ⟨p, vs, rfl, F.sqT (R.sub.sqT q), ?_, ?_⟩
    · rw [← rl.length, puts_len hp, hl]
    · exact h l vs env env' st σ Z c H R E rl hp Q fun σ' E' o => hQ σ' E' (by simpa [Tg.slots] using o)
  | _ => cases hp

/-! ### stores to names -/
theorem snd_set (F : Fit N X) {i : Nat} {n : PySem.Str} {e : Expr} {x : Ex} {p pos : Pos} (hc : isComp e = false) (ho : Own X i n) (he : SndE N O X e x) : SndS N O X (.Assign [.Name n p] e pos) (sSet i x) := by
  intro Y tk env st σ Z c H R E D h
  refine WS.of (ps_set F.nd ho.ix ho.loc (WE.pe X e) (swaps_no hc _ _ _) ho.fn) (he Y tk env st σ Z c H R E _ (Outc.mono (OutS.to E h) (Ext.refl ..) fun w Z1 c1 H1 _ ⟨st1, R1, x1, h1⟩ v rv => ?_))
  exact h1 Z1 c1 H1 _ (Ext.refl ..) R1 (RelE.set (E.mono x1) rv i)
/-- a tuple of names = a value that is no written tuple -/
def isTupX : Expr → Bool
  | .Tuple .. => true
  | _ => false
theorem swapped_no {t e : Expr} (h : isTupX e = false) (env : PySem.Env) : swappedStores [t] e env = pure none := by
  cases t <;> first | rfl | (cases e <;> first | rfl | cases h)
theorem vwt_ok {Z c st H} (R : RelH N Z c st H) {gs : List Tg} {w v env env'} (rv : RpW N Z c w v) (h : ((vw st w).bind fun a => (Tg.tup gs).put a env) = some env') : ∃ a, w = .v a ∧ Rp N Z a v ∧ (Tg.tup gs).put a env = some env' := by
  cases w with
  | v a => exact ⟨a, rfl, rv, h⟩
  | cel n =>
    cases e : vw st (.cel n) with
    | none => rw [e] at h; cases h
    | some a =>
      rw [e] at h
      cases q : st[n]? with
      | none => simp [vw, q] at e
      | some C => cases C <;> simp [vw, q] at e <;> (subst e; cases h)
  | lam _ _ => cases h
theorem snd_unpack (F : Fit N X) {es : List Expr} {k : Nat} {tp : Pos} {gs : List Tg} {e : Expr} {x : Ex} {pos : Pos} (hc : isComp e = false) (ht : isTupX e = false) (hg : SndG N X (.Tuple es k tp) (.tup gs)) (he : SndE N O X e x) :
    SndS N O X (.Assign [.Tuple es k tp] e pos) (sAsg (.tup gs) x) := by
  intro Y tk env st σ Z c H R E D h
  refine WS.of (ps_asg (WE.pe X e) (WG.pg X _) (by unfold swapsWithSole; exact swaps_no hc _ _ _) (swapped_no ht _) (by rfl)) (he Y tk env st σ Z c H R E _ (Outc.mono (OutS.to E h) (Ext.refl ..) fun w Z1 c1 H1 _ ⟨st1, R1, x1, h1⟩ v rv => ?_))
  cases e1 : ((vw st1 w).bind fun a => (Tg.tup gs).put a env) with
  | none => rw [e1] at h1; exact h1.elim
  | some env1 =>
    rw [e1] at h1
    obtain ⟨a, rfl, rv, hp⟩ := vwt_ok R1 rv e1
    exact hg a v env env1 st1 σ Z1 c1 H1 R1 (E.mono x1) rv hp _ fun σ1 E1 _ => h1 Z1 c1 H1 σ1 (Ext.refl ..) R1 E1
/-- a, b = x, y -/
theorem snd_par (F : Fit N X) {i j : Nat} {n m : PySem.Str} {a b : Expr} {x y : Ex} {px py pt pt2 pos : Pos} {kt k2 : Nat} (hi : X.N[i]? = some n) (hj : X.N[j]? = some m) (hij : i ≠ j) (hn : X.env.scope.names.lookup n = some .local) (hm : X.env.scope.names.lookup m = some .local)
    (hsa : isStar a = false) (hsb : isStar b = false) (ha : SndE N O X a x) (hb : SndE N O X b y) (hw : swappedStores [.Tuple [.Name n px, .Name m py] kt pt] (.Tuple [a, b] k2 pt2) X.env = pure (some [n, m])) :
    SndS N O X (.Assign [.Tuple [.Name n px, .Name m py] kt pt] (.Tuple [a, b] k2 pt2) pos) (sPar i j x y) := by
  intro Y tk env st σ Z c H R E D h
  refine WS.of (ps_par F.calm F.nd hi hj hij hn hm (pa_cons (WE.pe X a) (pa_cons (WE.pe X b) pa_nil (star_no hsb _ _)) (star_no hsa _ _)) hw) ?_
  refine ha Y tk env st σ Z c H R E _ (Outc.mono (OutS.to E h) (Ext.refl ..) fun w Z1 c1 H1 _ ⟨st1, R1, x1, h1⟩ v rv => ?_)
  refine hb Y tk env st1 σ Z1 c1 H1 R1 (E.mono x1) _ (Outc.mono (OutS.to (E.mono x1) h1) (Ext.refl ..) fun u Z2 c2 H2 _ ⟨st2, R2, x2, h2⟩ v' rv' => ?_)
  exact ⟨v, v', rfl, h2 Z2 c2 H2 _ (Ext.refl ..) R2 (((E.mono x1).mono x2).set (rv.mono x2) i |>.set rv' j)⟩

/-! ### loops -/
def noFold : Expr → Bool
  | .Set .. => false
  | _ => true
theorem folded_no {e : Expr} (h : noFold e = true) (env : PySem.Env) (x : Value) : foldedSetIterable e env x = pure x := by
  cases e <;> first | rfl | cases h
theorem getElem?_drop_cons {l : List A} {i : Nat} {a : A} {r : List A} (h : l.drop i = a :: r) : l[i]? = some a ∧ l.drop (i + 1) = r := by
  have h1 : i < l.length := by
    rcases Nat.lt_or_ge i l.length with h' | h'
    · exact h'
    · rw [List.drop_eq_nil_of_le h'] at h; cases h
  rw [List.drop_eq_getElem_cons h1] at h
  injection h with h2 h3
  exact ⟨by rw [List.getElem?_eq_getElem h1, h2], h3⟩
theorem snd_for (F : Fit N X) {tg iter : Expr} {body : List Stmt} {it : PV.It} {g : Tg} {m : Stm} {pos : Pos} (hp : PassesOwn (model X.prog X.w) X.A X.env X.xe) (hf : noFold iter = true) (hi : SndI N O X tg iter it) (hg : SndG N X tg g) (hb : SndSs N O X body m) :
    SndS N O X (.For tg iter body [] pos) (sFor it g m) := by
  intro Y tk env st σ Z c H R E D h
  refine WS.of (ps_for hp F.calm (WI.pi X tg iter) (WG.pg X tg) (WSs.ps X body) (folded_no hf _)) ?_
  refine hi Y tk env st σ Z c H R E _ (Outc.mono (OutS.to E h) (Ext.refl ..) fun p Z1 c1 H1 _ ⟨st1, R1, x1, h1⟩ J hJ hsz => ?_)
  obtain ⟨items, ok⟩ := p
  cases hok : ok st1 with
  | false => simp only [hok] at h1; exact h1.elim
  | true =>
    simp only [hok, if_true] at h1
    refine ⟨fun i n σ' H' => ∃ env' st' Z' c', n = items.length - i ∧ i ≤ items.length ∧ Ext Z1 c1 H1 Z' c' H' ∧ RelH N Z' c' st' H' ∧ RelE N Z' c' env' σ' ∧ ok st' = true ∧ OutS N Y Z' c' H' D (forGo O g m ok (items.drop i) env' st'),
      ⟨items.length, env, st1, Z1, c1, rfl, Nat.zero_le _, Ext.refl .., R1, E.mono x1, hok, h1⟩, ?_⟩
    rintro i n σ' H' ⟨env', st', Z', c', rfl, hil, x', R', E', hok', h'⟩
    obtain ⟨w1, w2⟩ := hJ i Z' c' st' H' x'.e0 R' hok'
    cases ed : items.drop i with
    | nil =>
      rw [ed] at h'
      exact .inl ⟨w2 (Nat.le_antisymm hil (List.drop_eq_nil_iff.mp ed)), h' Z' c' H' σ' (Ext.refl ..) R' E'⟩
    | cons a rest =>
      rw [ed] at h'
      obtain ⟨ea, er⟩ := getElem?_drop_cons ed
      have hlt : i < items.length := (List.getElem?_eq_some_iff.mp ea).1
      obtain ⟨go, yl⟩ := w1 a ea
      refine .inr ⟨go, fun σ2 H2 => ∃ m', m' < items.length - i ∧ ∃ env' st' Z' c', m' = items.length - (i + 1) ∧ i + 1 ≤ items.length ∧ Ext Z1 c1 H1 Z' c' H2 ∧ RelH N Z' c' st' H2 ∧ RelE N Z' c' env' σ2 ∧ ok st' = true ∧ OutS N Y Z' c' H2 D (forGo O g m ok (items.drop (i + 1)) env' st'), fun σ2 H2 q => q, fun x H2 hy => ?_⟩
      obtain ⟨Z2, x2, R2, rx⟩ := yl x H2 hy
      have h' : OutS N Y Z' c' H' D (match g.put a env' with | none => .bad | some e1 => match m O e1 st' with
        | .nx e2 st2 => if ok st2 then forGo O g m ok rest e2 st2 else .bad
        | .ct e2 st2 => if ok st2 then forGo O g m ok rest e2 st2 else .bad
        | .bk e2 st2 => .nx e2 st2
        | r => r) := h'
      cases ep : g.put a env' with
      | none => rw [ep] at h'; exact h'.elim
      | some e1 =>
        rw [ep] at h'
        refine hg a x env' e1 st' σ' Z2 c' H2 R2 (E'.mono x2) rx ep _ fun σ3 E3 _ => ?_
        have h'' := OutS.mono h' x2
        refine hb Y tk e1 st' σ3 Z2 c' H2 R2 E3 _ ?_
        cases em : m O e1 st' with
        | nx e2 st2 =>
          simp only [em] at h''
          intro Z3 c3 H3 σ4 x3 R3 E4
          cases ho : ok st2 with
          | false => rw [ho] at h''; exact h''.elim
          | true =>
            rw [ho] at h''
            exact ⟨items.length - (i + 1), by omega, e2, st2, Z3, c3, rfl, hlt, (x'.trans x2).trans x3, R3, E4, ho, by rw [er]; exact OutS.mono h'' x3⟩
        | ct e2 st2 =>
          simp only [em] at h''
          intro Z3 c3 H3 σ4 x3 R3 E4
          cases ho : ok st2 with
          | false => rw [ho] at h''; exact h''.elim
          | true =>
            rw [ho] at h''
            exact ⟨items.length - (i + 1), by omega, e2, st2, Z3, c3, rfl, hlt, (x'.trans x2).trans x3, R3, E4, ho, by rw [er]; exact OutS.mono h'' x3⟩
        | bk e2 st2 => simp only [em] at h''; exact h''
        | rt w st2 => simp only [em] at h''; exact h''
        | exc k fs e2 st2 => simp only [em] at h''; exact h''
        | bad => simp only [em] at h''; exact h''
theorem snd_while (F : Fit N X) {t : Expr} {body : List Stmt} {k : Te} {m : Stm} {n : Nat} {pos : Pos} (hp : PassesOwn (model X.prog X.w) X.A X.env X.xe) (ht : SndT N O X t k) (hb : SndSs N O X body m) : SndS N O X (.While t body [] pos) (sWhile n k m) := by
  intro Y tk env st σ Z c H R E D h
  refine WS.of (ps_while hp (WT.pt X t) (WSs.ps X body)) ?_
  refine ⟨fun n σ' H' => ∃ env' st' Z' c', RelH N Z' c' st' H' ∧ RelE N Z' c' env' σ' ∧ OutS N Y Z' c' H' D (whileGo O k m n env' st'), ⟨n, env, st, Z, c, R, E, h⟩, ?_⟩
  rintro n σ' H' ⟨env', st', Z', c', R', E', h'⟩
  cases n with
  | zero => exact h'.elim
  | succ n =>
    refine ht Y tk env' st' σ' Z' c' H' R' E' _ (Outc.mono (OutS.to E' h') (Ext.refl ..) fun b Z1 c1 H1 _ ⟨st1, R1, x1, h1⟩ => ?_)
    cases b with
    | false => exact h1 Z1 c1 H1 σ' (Ext.refl ..) R1 (E'.mono x1)
    | true =>
      refine ⟨fun σ2 H2 => ∃ env' st' Z' c', RelH N Z' c' st' H2 ∧ RelE N Z' c' env' σ2 ∧ OutS N Y Z' c' H2 D (whileGo O k m n env' st'), fun σ2 H2 q => ⟨n, Nat.lt_succ_self n, q⟩, ?_⟩
      refine hb Y tk env' st1 σ' Z1 c1 H1 R1 (E'.mono x1) _ ?_
      cases em : m O env' st1 with
      | nx e2 st2 => simp only [em, if_true] at h1; exact fun Z3 c3 H3 σ4 x3 R3 E4 => ⟨e2, st2, Z3, c3, R3, E4, OutS.mono h1 x3⟩
      | ct e2 st2 => simp only [em, if_true] at h1; exact fun Z3 c3 H3 σ4 x3 R3 E4 => ⟨e2, st2, Z3, c3, R3, E4, OutS.mono h1 x3⟩
      | bk e2 st2 => simp only [em, if_true] at h1; exact h1
      | rt w st2 => simp only [em, if_true] at h1; exact h1
      | exc kk fs e2 st2 => simp only [em, if_true] at h1; exact h1
      | bad => simp only [em, if_true] at h1; exact h1

/-! ### lists just made -/
/-- e makes a new list that nobody else knows -/
def SndF (N : Nm) (O : Orc) (X : Cx) (e : Expr) (x : Ex) : Prop := ∀ (Y : WX), Takes X Y → ∀ env st σ Z c H, RelH N Z c st H → RelE N Z c env σ → ∀ Q : VK,
  Outc N Y σ Z c H (x O env st) (fun w Z' c' H' => ∀ l vs p o, w = .v (.lst l) → o = HO.lst vs → H' p = none → vs.length ≤ sizeLine → RpL N Z' l vs → Q (.ref p) (upd H' p o)) → WE X e σ H Q
theorem SndF.e {e : Expr} {x : Ex} (hx : ∀ env st w st1, x O env st = .ok w st1 → ∃ l, w = .v (.lst l)) (h : SndF N O X e x) : SndE N O X e x := by
  intro Y tk env st σ Z c H R E Q q
  refine h Y tk env st σ Z c H R E Q ?_
  cases ex : x O env st with
  | ok w st1 =>
    rw [ex] at q
    obtain ⟨l, rfl⟩ := hx env st w st1 ex
    intro Z1 c1 H1 x1 R1 l' vs p o hl ho hp hz rl
    cases hl
    subst ho
    obtain ⟨x2, R2⟩ := ext_new (o := .lst vs) R1 hp
    exact q _ _ _ (x1.trans x2) R2 (.ref p) (.lst (SqL.of upd_same) (rl.mono x2.zz))
  | exc k fs st1 => rw [ex] at q; exact q
  | bad => rw [ex] at q; exact q
theorem SndF.new {e : Expr} {x : Ex} (h : SndF N O X e x) : SndE N O X e (eNew x) := by
  intro Y tk env st σ Z c H R E Q q
  refine h Y tk env st σ Z c H R E Q (Outc.mono q.bind (Ext.refl ..) fun w Z1 c1 H1 _ ⟨st1, R1, x1, h1⟩ l vs p o hl ho hp hz rl => ?_)
  subst hl ho
  obtain ⟨x2, R2⟩ := ext_cell (o := .lst vs) (C := .lst l) R1 hp ⟨vs, upd_same, rl⟩
  refine h1 _ _ _ x2 R2 (.ref p) ⟨p, ?_, rfl⟩
  rw [← R1.len]
  simp

/-! ### list comprehensions -/
def SndTs (N : Nm) (O : Orc) (X : Cx) (ifs : List Expr) (t : Te) : Prop := ∀ (Y : WX), Takes X Y → ∀ env st σ Z c H, RelH N Z c st H → RelE N Z c env σ → ∀ Q : Bool → Hp → Prop,
  Outc N Y σ Z c H (t O env st) (fun b _ _ H' => Q b H') → ∀ (pins : List (Addr × Obj)) (s : Shared), Inv X pins σ H s →
  wpAny (model X.prog X.w) X.A (forIn ifs true fun c r => if r = true then do let ok ← isTrue c X.env (eval c X.env); pure (ForInStep.yield ok) else pure (ForInStep.yield r)) (TP X pins σ Q) X.xe s
theorem sndts_nil : SndTs N O X [] PV.tYes := by
  intro Y tk env st σ Z c H R E Q h pins s I
  exact pts_nil.run pins s σ H Q I (h.okk R)
theorem sndts_one {e : Expr} {t : Te} (h : SndT N O X e t) : SndTs N O X [e] t := by
  intro Y tk env st σ Z c H R E Q q pins s I
  exact (pts_one (WT.pt X e)).run pins s σ H Q I (h Y tk env st σ Z c H R E Q q)
/-- a wish that nothing is raised -/
abbrev NoX : WX := fun _ _ _ _ => False
theorem Outc.quiet {α : Type} {Y Y' : WX} {σ σ' : Sl} {Z c H} {r : Res α} {Q : α → Hp → List Addr → Hp → Prop} (h : Outc N Y σ Z c H r.quiet Q) : Outc N Y' σ' Z c H r.quiet Q := by
  cases r with
  | ok a st => exact h
  | exc k fs st => exact h.elim
  | bad => exact h.elim
theorem quiet_bind {α β : Type} (r : Res α) (f : α → Sto → Res β) : (r.bind f).quiet = r.quiet.bind fun a st => (f a st).quiet := by
  cases r <;> rfl
theorem Outc.unquiet {α : Type} {Y : WX} {σ : Sl} {Z c H} {r : Res α} {Q : α → Hp → List Addr → Hp → Prop} (h : Outc N Y σ Z c H r.quiet Q) : Outc N Y σ Z c H r Q := by
  cases r with
  | ok a st => exact h
  | exc k fs st => exact h.elim
  | bad => exact h.elim
theorem tracked_keep {Z c H Z' c' H'} (x : Ext Z c H Z' c' H') {p : Addr} {o : HO} (h : H p = some o) (hc : p ∉ c) (hz : Z p = none) : H' p = some o ∧ p ∉ c' ∧ Z' p = none := by
  refine ⟨x.keep p o h hc, ?_, ?_⟩
  · obtain ⟨d, rfl, hd⟩ := x.pre
    intro hm
    rcases List.mem_append.mp hm with hm | hm
    · exact hc hm
    · rw [hd p hm] at h; cases h
  · cases q : Z' p with
    | none => rfl
    | some u =>
      rcases x.new p u q with e | e
      · rw [hz] at e; cases e
      · rw [e] at h; cases h
/-- a tracked thing that is neither frozen nor counted may be changed -/
theorem ext_loose {Z c st H} (R : RelH N Z c st H) {p : Addr} {o o' : HO} (h : H p = some o) (hc : p ∉ c) (hz : Z p = none) : RelH N Z c st (upd H p o') := by
  refine ⟨fun q u e => ?_, R.len, R.nd, R.fr, fun n q C e1 e2 => ?_⟩
  · have : q ≠ p := fun hq => by rw [hq, hz] at e; cases e
    rw [upd_ne this]; exact R.sub q u e
  · have hq : q ∈ c := List.mem_of_getElem? e1
    have hne : q ≠ p := fun hq' => hc (hq' ▸ hq)
    have cr := R.cel n q C e1 e2
    cases C with
    | lst l => obtain ⟨vs, h1, h2⟩ := cr; exact ⟨vs, by rw [upd_ne hne]; exact h1, h2⟩
    | dct l => obtain ⟨es, ep, h1, h2, h3, h4⟩ := cr; exact ⟨es, ep, by rw [upd_ne hne]; exact h1, h2, h3, h4⟩
    | ins k fs => obtain ⟨dx, gs, h1, h2⟩ := cr; exact ⟨dx, gs, by rw [upd_ne hne]; exact h1, h2⟩

/-! a heap without one thing -/
def rm (H : Hp) (D : Addr) : Hp := fun q => if q = D then none else H q
theorem rm_same {H : Hp} {D : Addr} : rm H D D = none := if_pos rfl
theorem rm_ne {H : Hp} {D q : Addr} (h : q ≠ D) : rm H D q = H q := if_neg h
theorem rm_upd {H : Hp} {D : Addr} {o : HO} : rm (upd H D o) D = rm H D := by
  funext q
  by_cases h : q = D
  · subst h; rw [rm_same, rm_same]
  · rw [rm_ne h, rm_ne h, upd_ne h]
theorem rm_none {H : Hp} {D : Addr} (h : H D = none) : rm H D = H := by
  funext q
  by_cases e : q = D
  · subst e; rw [rm_same, h]
  · rw [rm_ne e]
theorem upd_rm {H : Hp} {D : Addr} {o : HO} (h : H D = some o) : upd (rm H D) D o = H := by
  funext q
  by_cases e : q = D
  · subst e; rw [upd_same, h]
  · rw [upd_ne e, rm_ne e]
theorem ext_rm {Z c H Z' c' H'} (x : Ext Z c H Z' c' H') {D : Addr} (hz : Z' D = none) : Ext Z c (rm H D) Z' c' (rm H' D) := by
  have hn : ∀ p, H p = none → rm H D p = none := fun p e => by
    by_cases h : p = D
    · subst h; exact rm_same
    · rw [rm_ne h]; exact e
  refine ⟨x.zz, fun p o e => ?_, fun p o e hp => ?_, ?_, fun p e => ?_⟩
  · rcases x.new p o e with q | q
    · exact .inl q
    · exact .inr (hn p q)
  · by_cases h : p = D
    · subst h; rw [rm_same] at e; cases e
    · rw [rm_ne h] at e ⊢; exact x.keep p o e hp
  · obtain ⟨d, hd, hq⟩ := x.pre
    exact ⟨d, hd, fun p hp => hn p (hq p hp)⟩
  · by_cases h : p = D
    · subst h; exact absurd rm_same e
    · rw [rm_ne h] at e ⊢; exact x.there p e
theorem relH_rm {Z c st H} (R : RelH N Z c st H) {D : Addr} (hc : D ∉ c) (hz : Z D = none) : RelH N Z c st (rm H D) := by
  refine ⟨fun q u e => ?_, R.len, R.nd, R.fr, fun n q C e1 e2 => ?_⟩
  · have : q ≠ D := fun hq => by rw [hq, hz] at e; cases e
    rw [rm_ne this]; exact R.sub q u e
  · have hq : q ∈ c := List.mem_of_getElem? e1
    have hne : q ≠ D := fun hq' => hc (hq' ▸ hq)
    have cr := R.cel n q C e1 e2
    cases C with
    | lst l => obtain ⟨vs, h1, h2⟩ := cr; exact ⟨vs, by rw [rm_ne hne]; exact h1, h2⟩
    | dct l => obtain ⟨es, ep, h1, h2, h3, h4⟩ := cr; exact ⟨es, ep, by rw [rm_ne hne]; exact h1, h2, h3, h4⟩
    | ins k fs => obtain ⟨dx, gs, h1, h2⟩ := cr; exact ⟨dx, gs, by rw [rm_ne hne]; exact h1, h2⟩
theorem relH_add {Z c st H} {D : Addr} (R : RelH N Z c st (PV.rm H D)) : RelH N Z c st H := by
  have up : ∀ q u, PV.rm H D q = some u → H q = some u := fun q u e => by
    by_cases h : q = D
    · subst h; rw [rm_same] at e; cases e
    · rwa [rm_ne h] at e
  refine ⟨fun q u e => up q u (R.sub q u e), R.len, R.nd, R.fr, fun n q C e1 e2 => ?_⟩
  have cr := R.cel n q C e1 e2
  cases C with
  | lst l => obtain ⟨vs, h1, h2⟩ := cr; exact ⟨vs, up _ _ h1, h2⟩
  | dct l => obtain ⟨es, ep, h1, h2, h3, h4⟩ := cr; exact ⟨es, ep, up _ _ h1, h2, h3, h4⟩
  | ins k fs => obtain ⟨dx, gs, h1, h2⟩ := cr; exact ⟨dx, gs, up _ _ h1, h2⟩
theorem Outc.rm {α : Type} {Y : WX} {σ : Sl} {Z c H} {D : Addr} {o : HO} {r : Res α} {Q : α → Hp → List Addr → Hp → Prop} (hD : H D = some o) (hc : D ∉ c) (hz : Z D = none) (h : Outc N NoX σ Z c (rm H D) r.quiet Q) :
    Outc N Y σ Z c H r fun a Z1 c1 H1 => H1 D = some o ∧ D ∉ c1 ∧ Z1 D = none ∧ Q a Z1 c1 (PV.rm H1 D) := by
  cases r with
  | ok a st => exact fun Z1 c1 H1 x1 R1 =>
      let ⟨k1, k2, k3⟩ := tracked_keep x1 hD hc hz
      ⟨k1, k2, k3, h Z1 c1 (PV.rm H1 D) (ext_rm x1 k3) (relH_rm R1 k2 k3)⟩
  | exc k fs st => exact h.elim
  | bad => exact h.elim
theorem of_bind {α β : Type} {o : Option α} {st : Sto} {f : α → Sto → Res β} : (Res.of o st).bind f = match o with | some a => f a st | none => .bad := by
  cases o <;> rfl
theorem lc_core0 (F : Fit N X) {own : List (PySem.Str × Nat)} {it : PV.It} {g : Tg} {t : Te} {x : Ex}
    (hsl : ∀ i ∈ g.slots, i ∈ own.map (·.2))
    {wi : TI} {Hz : Hp}
    {tt : TT} {te : TE} {gg : TG} (hgg : ∀ a v env env' st σ Z c H', RelH N Z c st H' → RelE N Z c env σ → Rp N Z a v → g.put a env = some env' → ∀ Q : Sl → Hp → Prop, (∀ σ', RelE N Z c env' σ' → Off g.slots σ σ' → Q σ' H') → gg v σ H' Q)
    (htt : ∀ env st σ Z c H, RelH N Z c st H → RelE N Z c env σ → ∀ Q : Bool → Hp → Prop, Outc N NoX σ Z c H (t O env st) (fun b _ _ H' => Q b H') → tt σ H Q)
    (hte : ∀ env st σ Z c H, RelH N Z c st H → RelE N Z c env σ → ∀ Q : VK, Outc N NoX σ Z c H (x O env st) (fun w Z' c' H' => ∀ v, RpW N Z' c' w v → Q v H') → te σ H Q)
    {Y : WX} (tk : Takes X Y) {env st σ Z c H} (R : RelH N Z c st H) (E : RelE N Z c env σ) {Q : VK}
    (hi : ∀ T : L2.It → Hp → Prop, Outc N Y σ Z c H (it O env st) (fun p Z' c' H' => ∀ J, WalkOk N J Z' c' H' p.1 p.2 → p.1.length ≤ Sz → T J H') → wi σ Hz T)
    (h : Outc N Y σ Z c H (eLc it g (own.map (·.2)) t x O env st) (fun w Z' c' H' => ∀ l vs p o, w = .v (.lst l) → o = HO.lst vs → H' p = none → vs.length ≤ sizeLine → RpL N Z' l vs → Q (.ref p) (upd H' p o))) :
    tLc wi gg tt te (own.map (·.2)) σ Hz Q := by
  refine hi _ (Outc.mono h.bind (Ext.refl ..) fun p Z1 c1 H1 _ ⟨st1, R1, x1, h1⟩ J hJ hsz => ?_)
  obtain ⟨items, ok⟩ := p
  intro D hD
  cases hok : ok st1 with
  | false => simp only [hok] at h1; exact h1.elim
  | true =>
    simp only [hok, if_true] at h1
    have hz1 : Z1 D = none := by
      cases q : Z1 D with
      | none => rfl
      | some u => rw [R1.sub D u q] at hD; cases hD
    have hc1 : D ∉ c1 := fun hm => R1.tracked hm hD
    obtain ⟨_, R1'⟩ := ext_junk (o := HO.lst []) R1 hD
    have E1 := (E.mono x1).wipe (own.map (·.2))
    have h2 : Outc N NoX σ Z1 c1 H1 (lcGo O g t x (PV.wipe env (own.map (·.2))) ok items st1).quiet fun ys Z' c' H' => ∀ vs, H' D = none → vs.length ≤ sizeLine → RpL N Z' ys vs → Q (.ref D) (upd H' D (HO.lst vs)) := by
      refine Outc.quiet (Y := Y) (σ := σ) (Outc.mono h1.bind (Ext.refl ..) fun ys Z' c' H' _ ⟨st2, R2, x2, h2⟩ vs hn hz rl => ?_)
      exact h2 Z' c' H' (Ext.refl ..) R2 ys vs D _ rfl rfl hn hz rl
    generalize PV.wipe env (own.map (·.2)) = env1 at E1 h2
    generalize hvs : own.map (·.2) = vs at *
    refine ⟨fun i m H' => ∃ st' Z' c' accA acc, m = items.length - i ∧ i ≤ items.length ∧ RelH N Z' c' st' H' ∧ H' D = some (.lst acc) ∧ D ∉ c' ∧ Z' D = none ∧ Ext Z1 c1 H1 Z' c' (PV.rm H' D) ∧ ok st' = true ∧ RpL N Z' accA acc ∧ accA.length ≤ i ∧
      Outc N NoX σ Z' c' (PV.rm H' D) (lcGo O g t x env1 ok (items.drop i) st').quiet fun ys Z'' c'' H'' => ∀ vs, H'' D = none → vs.length ≤ sizeLine → RpL N Z'' (accA ++ ys) vs → Q (.ref D) (upd H'' D (HO.lst vs)),
      ⟨items.length, st1, Z1, c1, [], [], rfl, Nat.zero_le _, R1', upd_same, hc1, hz1, by rw [rm_upd, rm_none hD]; exact Ext.refl .., hok, .nil, Nat.le_refl _, by rw [rm_upd, rm_none hD]; exact h2⟩, ?_⟩
    rintro i m H' ⟨st', Z', c', accA, acc, rfl, hil, R', hD', hc', hz', x', hok', ra, hal, h'⟩
    have xx : Ext Z1 c1 H1 Z' c' H' := by
      refine ⟨x'.zz, x'.new, fun p o e hp => ?_, x'.pre, fun p e => ?_⟩
      · have := x'.keep p o e hp
        by_cases hq : p = D
        · subst hq; rw [hD] at e; cases e
        · rwa [rm_ne hq] at this
      · have := x'.there p e
        by_cases hq : p = D
        · subst hq; rw [hD']; exact fun z => nomatch z
        · rwa [rm_ne hq] at this
    obtain ⟨w1, w2⟩ := hJ i Z' c' st' H' xx.e0 R' hok'
    cases ed : items.drop i with
    | nil =>
      rw [ed] at h'
      refine .inl ⟨w2 (Nat.le_antisymm hil (List.drop_eq_nil_iff.mp ed)), ?_⟩
      have q := h' Z' c' (PV.rm H' D) (Ext.refl ..) (relH_rm R' hc' hz') acc rm_same (by rw [← ra.length, sizeLine_eq]; exact Nat.le_trans hal (Nat.le_trans hil hsz)) (by simpa using ra)
      rwa [upd_rm hD'] at q
    | cons a rest =>
      rw [ed] at h'
      obtain ⟨ea, er⟩ := getElem?_drop_cons ed
      have hlt : i < items.length := (List.getElem?_eq_some_iff.mp ea).1
      obtain ⟨go, yl⟩ := w1 a ea
      refine .inr ⟨go, fun H2 => ∃ m', m' < items.length - i ∧ ∃ st' Z' c' accA acc, m' = items.length - (i + 1) ∧ i + 1 ≤ items.length ∧ RelH N Z' c' st' H2 ∧ H2 D = some (.lst acc) ∧ D ∉ c' ∧ Z' D = none ∧ Ext Z1 c1 H1 Z' c' (PV.rm H2 D) ∧ ok st' = true ∧ RpL N Z' accA acc ∧ accA.length ≤ i + 1 ∧
        Outc N NoX σ Z' c' (PV.rm H2 D) (lcGo O g t x env1 ok (items.drop (i + 1)) st').quiet fun ys Z'' c'' H'' => ∀ vs, H'' D = none → vs.length ≤ sizeLine → RpL N Z'' (accA ++ ys) vs → Q (.ref D) (upd H'' D (HO.lst vs)), fun H2 q => q, fun y H2 hy => ?_⟩
      obtain ⟨Z2, x2, R2, rx⟩ := yl y H2 hy
      obtain ⟨hD2, hc2, hz2⟩ := tracked_keep x2 hD' hc' hz'
      have E2 : RelE N Z2 c' env1 (L2.wipe σ vs) := ((E1.mono x').mono (ext_rm x2 hz2))
      have h' : Outc N NoX σ Z' c' (PV.rm H' D) (match g.put a env1 with
        | none => Res.bad
        | some e1 => (t O e1 st').bind fun b st1 => if b then (x O e1 st1).bind fun y st2 => (Res.of y.val st2).bind fun y st2 => if ok st2 then (lcGo O g t x env1 ok rest st2).bind fun ys st3 => .ok (y :: ys) st3 else .bad
          else if ok st1 then lcGo O g t x env1 ok rest st1 else .bad).quiet _ := h'
      cases ep : g.put a env1 with
      | none => rw [ep] at h'; exact h'.elim
      | some e1 =>
        rw [ep] at h'
        refine hgg a y env1 e1 st' (L2.wipe σ vs) Z2 c' H2 R2 E2 rx ep _ fun σ2 E3 o3 => ⟨?_, ?_⟩
        · rw [o3 vs hsl, wipe_idem _ _ _ fun i hi => hi]
        · have h3 := Outc.mono h' (ext_rm x2 hz2) fun _ _ _ _ _ q => q
          simp only [quiet_bind] at h3
          refine htt e1 st' σ2 Z2 c' H2 R2 E3 _ (Outc.mono (Outc.rm (Y := NoX) hD2 hc2 hz2 (Outc.quiet (σ' := σ2) h3.bind)) (Ext.refl ..) ?_)
          rintro b Z3 c3 H3 x3 ⟨hD3, hc3, hz3, st3, R3, x3', h4⟩
          have R3' := relH_add R3
          have xr3 : Ext Z1 c1 H1 Z3 c3 (PV.rm H3 D) := (x'.trans (ext_rm x2 hz2)).trans x3'
          cases b with
          | false =>
            simp only [Bool.false_eq_true, if_false] at h4 ⊢
            cases ho : ok st3 with
            | false => rw [ho] at h4; exact h4.elim
            | true =>
              rw [ho] at h4
              exact ⟨items.length - (i + 1), by omega, st3, Z3, c3, accA, acc, rfl, hlt, R3', hD3, hc3, hz3, xr3, ho, ra.mono ((ext_rm x2 hz2).zz.trans x3'.zz), Nat.le_succ_of_le hal, by rw [er]; exact h4⟩
          | true =>
            simp only [if_true, quiet_bind] at h4 ⊢
            refine hte e1 st3 σ2 Z3 c3 H3 R3' (E3.mono x3) _ (Outc.mono (Outc.rm (Y := NoX) hD3 hc3 hz3 (Outc.quiet (σ' := σ2) h4.bind)) (Ext.refl ..) ?_)
            rintro w Z4 c4 H4 x4 ⟨hD4, hc4, hz4, st4, R4, x4', h5⟩ v rv
            have R4' := relH_add R4
            have xr4 := xr3.trans x4'
            have ra4 := (ra.mono ((ext_rm x2 hz2).zz.trans x3'.zz)).mono x4'.zz
            cases w with
            | v a' =>
              have h5 : Outc N NoX σ Z4 c4 (PV.rm H4 D) (if ok st4 then (lcGo O g t x env1 ok rest st4).bind fun ys st3 => .ok (a' :: ys) st3 else .bad).quiet _ := h5
              cases ho : ok st4 with
              | false => rw [ho] at h5; exact h5.elim
              | true =>
                rw [ho] at h5
                simp only [if_true, quiet_bind] at h5
                have hl : acc.length < sizeLine := by rw [← ra.length, sizeLine_eq]; exact Nat.lt_of_le_of_lt hal (Nat.lt_of_lt_of_le hlt hsz)
                refine ⟨acc, hD4, hl, items.length - (i + 1), by omega, st4, Z4, c4, accA ++ [a'], acc ++ [v], rfl, hlt, ext_loose R4' hD4 hc4 hz4, upd_same, hc4, hz4, by rw [rm_upd]; exact xr4, ho, ra4.append (.cons rv .nil), by simp; exact hal, ?_⟩
                rw [rm_upd, er]
                refine Outc.mono h5.bind (Ext.refl ..) fun ys Z5 c5 H5 x5 ⟨st5, R5, x5', h6⟩ vs' hn hz rl => ?_
                exact h6 Z5 c5 H5 (Ext.refl ..) R5 vs' hn hz (by simpa using rl)
            | cel n => exact h5.elim
            | lam k l => exact h5.elim
theorem lc_core' (F : Fit N X) {elt tg iter : Expr} {ifs : List Expr} {scope : Scope} {own : List (PySem.Str × Nat)} {it : PV.It} {g : Tg} {t : Te} {x : Ex}
    (hsl : ∀ i ∈ g.slots, i ∈ own.map (·.2))
    (hi : SndI N O X tg iter it)
    {tt : TT} {te : TE} {gg : TG} (hgg : ∀ a v env env' st σ Z c H', RelH N Z c st H' → RelE N Z c env σ → Rp N Z a v → g.put a env = some env' → ∀ Q : Sl → Hp → Prop, (∀ σ', RelE N Z c env' σ' → Off g.slots σ σ' → Q σ' H') → gg v σ H' Q)
    (htt : ∀ env st σ Z c H, RelH N Z c st H → RelE N Z c env σ → ∀ Q : Bool → Hp → Prop, Outc N NoX σ Z c H (t O env st) (fun b _ _ H' => Q b H') → tt σ H Q)
    (hte : ∀ env st σ Z c H, RelH N Z c st H → RelE N Z c env σ → ∀ Q : VK, Outc N NoX σ Z c H (x O env st) (fun w Z' c' H' => ∀ v, RpW N Z' c' w v → Q v H') → te σ H Q)
    {Y : WX} (tk : Takes X Y) {env st σ Z c H} (R : RelH N Z c st H) (E : RelE N Z c env σ) {Q : VK}
    (h : Outc N Y σ Z c H (eLc it g (own.map (·.2)) t x O env st) (fun w Z' c' H' => ∀ l vs p o, w = .v (.lst l) → o = HO.lst vs → H' p = none → vs.length ≤ sizeLine → RpL N Z' l vs → Q (.ref p) (upd H' p o))) :
    tLc (WI X tg iter) gg tt te (own.map (·.2)) σ H Q :=
  lc_core0 F hsl hgg htt hte tk R E (fun T q => hi Y tk env st σ Z c H R E T q) h
/-- [elt for target in iter if ..] -/
theorem sndf_lc (F : Fit N X) {elt tg iter : Expr} {ifs : List Expr} {scope : Scope} {own : List (PySem.Str × Nat)} {it : PV.It} {g : Tg} {t : Te} {x : Ex} {pos : Pos} (hf : noFold iter = true) (hb : BlkOk X.N X.env.scope scope own)
    (hsl : ∀ i ∈ g.slots, i ∈ own.map (·.2)) (hi : SndI N O X tg iter it)
    (hg : ∀ (s : Shared) (H : Hp) (C : Addr) (cl : List (PySem.Str × Addr)) (fp : List Addr), SndG N (X.blk s H scope (compEnvC scope cl C X.env) fp) tg g)
    (ht : ∀ (s : Shared) (H : Hp) (C : Addr) (cl : List (PySem.Str × Addr)) (fp : List Addr), SndTs N O (X.blk s H scope (compEnvC scope cl C X.env) fp) ifs t)
    (he : ∀ (s : Shared) (H : Hp) (C : Addr) (cl : List (PySem.Str × Addr)) (fp : List Addr), SndE N O (X.blk s H scope (compEnvC scope cl C X.env) fp) elt x) :
    SndF N O X (.ListComp elt [⟨tg, iter, ifs, 0⟩] scope pos) (eLc it g (own.map (·.2)) t x) := by
  intro Y tk env st σ Z c H R E Q h
  refine WE.of (pe_lc (g := fun v σ H Q => ∀ s0 H0 C cl fp, WG (X.blk s0 H0 scope (compEnvC scope cl C X.env) fp) tg v σ H Q)
    (tt := fun σ H Q => ∀ s0 H0 C cl fp, ∀ (pins : List (Addr × Obj)) (s : Shared), Inv (X.blk s0 H0 scope (compEnvC scope cl C X.env) fp) pins σ H s → wpAny (model X.prog X.w) X.A (forIn ifs true fun c r => if r = true then do let ok ← isTrue c (compEnvC scope cl C X.env) (eval c (compEnvC scope cl C X.env)); pure (ForInStep.yield ok) else pure (ForInStep.yield r)) (TP (X.blk s0 H0 scope (compEnvC scope cl C X.env) fp) pins σ Q) (fun _ _ => False) s)
    (te := fun σ H Q => ∀ s0 H0 C cl fp, WE (X.blk s0 H0 scope (compEnvC scope cl C X.env) fp) elt σ H Q)
    F.calm F.nd (WI.pi X tg iter) hb ?_ ?_ ?_ (folded_no hf _)) ?_
  · exact fun s0 H0 C cl fp => ⟨fun pins s σ H v u Q I r h => h s0 H0 C cl fp pins s u I r⟩
  · exact fun s0 H0 C cl fp => ⟨fun pins s σ H Q I h => h s0 H0 C cl fp pins s I⟩
  · exact fun s0 H0 C cl fp => ⟨fun pins s σ H Q I h => h s0 H0 C cl fp pins s I⟩
  · refine lc_core' (X := X) (tg := tg) (iter := iter) (elt := elt) (ifs := ifs) (scope := scope) F hsl hi ?_ ?_ ?_ tk R E h
    · exact fun a v env env' st σ Z c H' R' E' r hp Q hQ s0 H0 C cl fp => hg s0 H0 C cl fp a v env env' st σ Z c H' R' E' r hp Q hQ
    · exact fun env st σ Z c H R E Q q s0 H0 C cl fp => ht s0 H0 C cl fp NoX takes0 env st σ Z c H R E Q q
    · exact fun env st σ Z c H R E Q q s0 H0 C cl fp => he s0 H0 C cl fp NoX takes0 env st σ Z c H R E Q q
theorem lc_lst {it : PV.It} {g : Tg} {own : List Nat} {t : Te} {x : Ex} (env : Env) (st : Sto) (w : PV.W) (st1 : Sto) (h : eLc it g own t x O env st = .ok w st1) : ∃ l, w = .v (.lst l) := by
  unfold eLc at h
  cases e : it O env st with
  | ok p st2 =>
    rw [e] at h
    simp only [bind_ok] at h
    split at h
    · cases e2 : (lcGo O g t x (PV.wipe env own) p.2 p.1 st2).quiet with
      | ok ys st3 => rw [e2] at h; cases h; exact ⟨ys, rfl⟩
      | exc _ _ _ => rw [e2] at h; cases h
      | bad => rw [e2] at h; cases h
    · cases h
  | exc _ _ _ => rw [e] at h; cases h
  | bad => rw [e] at h; cases h
end
end PV
end
section
set_option linter.all false
set_option Elab.async false
set_option maxRecDepth 100000
set_option maxHeartbeats 4000000
/-! PV4: calls of the program's own functions. -/
namespace PV
open PySem PySem.Spec PyProof.Rows L2

/-- a function that keeps its promise, wherever no guard is about -/
structure Fk (P : Program) (w : World) (K : PySem.W.Frag) (mg : PySem.Str → Option Value) (base : Heap) (lv : Nat) (f : Addr) (fd : FuncData) (ps : List PySem.Str) (sp : Sp) : Prop where
  lens : ∀ vs H Q E, sp vs H Q E → vs.length = ps.length
  goes : ∀ (A : Around) (out : List PySem.Env) (s : Shared) (H : Hp) (ar : Args) (us : List Value) (vs : List V) (Q : VK) (E : XK), Room lv A → A.guards = some [] → Env0 P w K mg base A out s H → BindsTo s fd ar (ps.zip us) → Vals vs us → sp vs H Q E →
    codeAny (model P w) A (.call (.ref f) ar) (CR (L2.CX P w) out P w H s Q E) s
/-- behind a callee -/
theorem behind {X : Cx} {Y : WX} (tk : Takes X Y) {pins : List (Addr × Obj)} {σ : Sl} {H : Hp} {s : Shared} {Q : VK} (I : Inv X pins σ H s) {r : Result} {s' : Shared} (h : CR (L2.CX X.prog X.w) X.stack X.prog X.w H s Q (fun cls d H' => Y cls d σ H') r s') :
    (match r with | .ok (.ret u) => EP X pins σ Q u s' | .ok _ => False | .error e => X.xe e s') := by
  match r, h with
  | .error e, h => exact tk e s' (XE.of_call I (fun _ _ _ q => q) h)
  | .ok (.ret u), h => exact I.after h
  | .ok .next, h => exact h
  | .ok .brk, h => exact h
  | .ok .cont, h => exact h
theorem Fk.call {X : Cx} {lv : Nat} {f : Addr} {fd : FuncData} {ps : List PySem.Str} {sp : Sp} {Y : WX} (tk : Takes X Y) {pins : List (Addr × Obj)} {σ : Sl} {H : Hp} {s : Shared} {Q : VK} {ar : Args} {us : List Value} {vs : List V}
    (F : Fk X.prog X.w X.K X.mg X.base lv f fd ps sp) (rm : Room lv X.A) (gu : X.A.guards = some []) (bd : BindsTo s fd ar (ps.zip us)) (I : Inv X pins σ H s) (rv : Vals vs us) (h : sp vs H Q (fun cls d H' => Y cls d σ H')) :
    wpAny (model X.prog X.w) X.A (PySem.call (.ref f) ar.pos ar.kw) (EP X pins σ Q) X.xe s := by
  refine wpAny_call (codeAny_mono (F.goes X.A X.stack s H ar us vs Q _ rm gu I.env0 bd rv h) fun r s' q => ?_)
  cases r with
  | error e => exact behind (r := .error e) tk I q
  | ok fl =>
    cases fl with
    | ret u => exact behind (r := .ok (.ret u)) tk I q
    | next => exact (behind (r := .ok .next) tk I q).elim
    | brk => exact (behind (r := .ok .brk) tk I q).elim
    | cont => exact (behind (r := .ok .cont) tk I q).elim
/-- a function by its body -/
theorem Fk.of {P : Program} {w : World} {K : PySem.W.Frag} {mg : PySem.Str → Option Value} {base : Heap} {lv : Nat} {f : Addr} {fd : FuncData} {x qual : PySem.Str} {params : Arguments} {body : List Stmt} {scope : Scope} {dvs : List V} {kws : List (PySem.Str × V)} {Nn ps : List PySem.Str} {sp : Sp}
    (D : FunD K x qual params body scope dvs kws f fd) (S : FnScope Nn ps scope) (len : ∀ vs H Q E, sp vs H Q E → vs.length = ps.length)
    (hb : ∀ (cdv : Value) (A : Around) (out : List PySem.Env) (s : Shared) (H : Hp) (vs : List V) (Q : VK) (E : XK), Room lv (A.deeper (envOfC qual scope s.heap.objs.size f cdv)) → A.guards = some [] → sp vs H Q E →
      WSs (cxOf (L2.CX P w) P w K mg base Nn qual scope f cdv A out s H E) body (L2.start Nn vs) H { nx := fun _ H' => Q .non H', rt := Q }) : Fk P w K mg base (lv + 1) f fd ps sp := by
  obtain ⟨oc, od, dV, kV, doc, pm, an, cdv, ct, osl, rfl, lk, hcd, _, _⟩ := D.ex
  refine ⟨len, fun A out s H ar us vs Q E rm gu e0 bd rv hs => ?_⟩
  have lim : s.heap.NoLimit := e0.mod.nolimit.keeps fun b o e => (e0.bs b o e).1
  have kin : K.In s.heap := e0.mod.kin.keeps fun b o e => (e0.bs b o e).1
  have par : ∀ y ∈ ps.zip us, scope.names.lookup y.1 = some .local ∨ (scope.names.lookup y.1 = some .cell ∧ ((cellsFrom (s.heap.objs.size + 1) scope.names []).lookup y.1).isSome = true) := by
    rintro ⟨n, v⟩ hy
    exact (S.par n (List.of_mem_zip hy).1).imp id fun q => ⟨q, PySem.W.cellsFrom_some _ _ _ (.inl q)⟩
  refine codeAny_call_function rm.depth (kin _ _ lk) rfl S.co S.gen rfl (PySem.W.codeRec_of kin hcd) (bd _ _ _ _ ?_)
  refine wpAny_newFunctionEnv_cells S.kind par fun env he s1 x => ?_
  cases he
  refine ⟨lim.keeps x.toInCall.keep, codeAny_func ?_⟩
  have I := inv_start (CX := L2.CX P w) (mg := mg) (base := base) (E := E) S rm.hd e0 (len _ _ _ _ hs) rv x
  refine wpAny_mono (hb cdv A out s H vs Q E (rm.deeper _) gu hs [] s1 I) (fun fl s' q => ?_) fun e s' q => q
  have out_ : ∀ {σ' : Sl} {H' : Hp} {v : V} {u : Value}, Inv (cxOf (L2.CX P w) P w K mg base Nn qual scope f cdv A out s H E) [] σ' H' s' → RelV v u → Q v H' → CE out P w H s Q u s' := fun {σ' H' v u} J r q => ⟨v, H', J.os, J.bare, J.base, J.hok, r, q⟩
  match fl, q with
  | .ret u, ⟨v, σ', H', J, r, q⟩ => exact out_ J r q
  | .next, ⟨σ', H', J, q⟩ => exact out_ (v := V.non) (u := Value.none) J rfl q
  | .brk, ⟨_, _, _, q⟩ => exact q.elim
  | .cont, ⟨_, _, _, q⟩ => exact q.elim

/-! ### the promise of a plain function -/
def spOf (N : Nm) (O : Orc) (i : Nat) (np : Nat) : Sp := fun vs H Q E => ∃ Z c st args, args.length = np ∧ RelH N Z c st H ∧ RpWs N Z c args vs ∧
  Outc N (fun cls d _ H => E cls d H) [] Z c H (O i args st) fun w Z' c' H' => ∀ v, RpW N Z' c' w v → Q v H'
theorem RpWs.length {N Z c} : ∀ {l vs}, RpWs N Z c l vs → l.length = vs.length
  | _, _, .nil => rfl
  | _, _, .cons _ r => by simp [RpWs.length r]
theorem RpWs.append {N Z c} : ∀ {l vs m us}, RpWs N Z c l vs → RpWs N Z c m us → RpWs N Z c (l ++ m) (vs ++ us)
  | _, _, _, _, .nil, r => r
  | _, _, _, _, .cons a q, r => .cons a (RpWs.append q r)
theorem RpL.ws {N Z c} : ∀ {l vs}, RpL N Z l vs → RpWs N Z c (l.map W.v) vs
  | _, _, .nil => .nil
  | _, _, .cons a r => .cons a (RpL.ws r)
theorem rel_start {N Z c} {args : List PV.W} {vs : List V} {Nn : List PySem.Str} (r : RpWs N Z c args vs) : RelE N Z c (args.map some ++ List.replicate (Nn.length - args.length) none) (L2.start Nn vs) := by
  have go : ∀ {args : List PV.W} {vs : List V} (n : Nat), RpWs N Z c args vs → RelE N Z c (args.map some ++ List.replicate n none) (vs.map some ++ List.replicate n none) := by
    intro args vs n r
    induction r with
    | nil =>
      refine ⟨by simp, fun i w e => ?_⟩
      simp only [List.map_nil, List.nil_append, List.getElem?_replicate] at e
      split at e <;> cases e
    | @cons w v l vs a q ih =>
      refine ⟨by have := ih.1; simp at this ⊢; omega, fun i w' e => ?_⟩
      cases i with
      | zero => simp at e; subst e; exact ⟨v, by simp, a⟩
      | succ i => obtain ⟨u, h1, h2⟩ := ih.2 i w' (by simpa using e); exact ⟨u, by simpa using h1, h2⟩
  unfold L2.start
  rw [r.length]
  exact go _ r

/-! ### what is left behind is frozen -/
def frz (Z : Hp) (d : List Addr) (H : Hp) : Hp := fun p => if p ∈ d then H p else Z p
theorem old_of {n0 : Nat} : ∀ {st : Sto} {n : Nat} {k : Nat} {fs : List (Nat × PV.W)}, oldOnly n0 st = true → st[n]? = some (.ins k fs) → fs.all (fun p => match p.2 with | .v _ => true | .cel n => decide (n < n0) | .lam _ _ => false) = true
  | [], _, _, _, _, e => by simp at e
  | C :: st, 0, k, fs, h, e => by
    simp at e
    subst e
    simp only [oldOnly, Bool.and_eq_true] at h
    exact h.1
  | C :: st, n + 1, k, fs, h, e => by
    have h2 : oldOnly n0 st = true := by
      cases C with
      | lst l => exact h
      | dct l => exact h
      | ins k' fs' => simp only [oldOnly, Bool.and_eq_true] at h; exact h.2
    exact old_of (st := st) (n := n) h2 (by simpa using e)
theorem leave_rel {N Z c st H Z' c' st1 H'} (x : Ext Z c H Z' c' H') (R0 : RelH N Z c st H) (R : RelH N Z' c' st1 H') (ho : oldOnly st.length (st1.take st.length) = true) :
    ∃ Z'', Ext Z c H Z'' c H' ∧ RelH N Z'' c (st1.take st.length) H' ∧ Le Z' Z'' ∧ (∀ n p, st.length ≤ n → c'[n]? = some p → Z'' p = H' p) ∧ ∀ n, n < st.length → c[n]? = c'[n]? := by
  obtain ⟨d, rfl, hd⟩ := x.pre
  have nd := List.nodup_append.mp R.nd
  have dn : ∀ p ∈ d, Z' p = none := fun p hp => R.fr p (List.mem_append_right _ hp)
  have le : Le Z' (frz Z' d H') := fun p o e => by
    unfold frz
    by_cases h : p ∈ d
    · rw [dn p h] at e; cases e
    · rw [if_neg h]; exact e
  have hlen : c.length = st.length := R0.len
  have getc : ∀ n, n < st.length → c[n]? = (c ++ d)[n]? := fun n hn => (List.getElem?_append_left (by rw [hlen]; exact hn)).symm
  have x2 : Ext Z c H (frz Z' d H') c H' := by
    refine ⟨x.zz.trans le, fun p o e => ?_, x.keep, ⟨[], by simp⟩, x.there⟩
    unfold frz at e
    by_cases h : p ∈ d
    · exact .inr (hd p h)
    · rw [if_neg h] at e; exact x.new p o e
  refine ⟨frz Z' d H', x2, ⟨fun p o e => ?_, ?_, nd.1, fun p hp => ?_, fun n p C e1 e2 => ?_⟩, le, fun n p hn e => ?_, getc⟩
  · unfold frz at e
    by_cases h : p ∈ d
    · rw [if_pos h] at e; exact e
    · rw [if_neg h] at e; exact R.sub p o e
  · rw [List.length_take, ← R.len, hlen]; simp; omega
  · unfold frz
    rw [if_neg fun h => nd.2.2 p hp p h rfl]
    exact R.fr p (List.mem_append_left _ hp)
  · have hn : n < st.length := by rw [← hlen]; exact (List.getElem?_eq_some_iff.mp e1).1
    have e2' : st1[n]? = some C := by
      rw [List.getElem?_take_of_lt hn] at e2
      exact e2
    have cr := R.cel n p C (by rw [← getc n hn]; exact e1) e2'
    cases C with
    | lst l => obtain ⟨vs, h1, h2⟩ := cr; exact ⟨vs, h1, h2.mono le⟩
    | dct l => obtain ⟨es, ep, h1, h2, h3, h4⟩ := cr; exact ⟨es, ep, h1, h2.mono le, h3, h4⟩
    | ins k fs =>
      obtain ⟨dx, gs, h1, h2⟩ := cr
      refine ⟨dx, gs, h1, ?_⟩
      have ha := old_of ho e2
      clear e2 e2' h1
      induction h2 with
      | nil => exact .nil
      | @cons f w v l vs a r ih =>
        simp only [List.all_cons, Bool.and_eq_true] at ha
        refine .cons ?_ (ih ha.2)
        cases w with
        | v b => exact Rp.mono le a
        | cel m =>
          obtain ⟨q, hq, rfl⟩ := a
          exact ⟨q, by rw [getc m (of_decide_eq_true ha.1)]; exact hq, rfl⟩
        | lam _ _ => exact a.elim
  · unfold frz
    rw [if_pos]
    rw [List.getElem?_append_right (by rw [hlen]; exact hn)] at e
    exact List.mem_of_getElem? e
theorem thaw_ok {N Z c st H Z' c' st1 H'} (x : Ext Z c H Z' c' H') (R0 : RelH N Z c st H) (R : RelH N Z' c' st1 H') {w w' : PV.W} {v : V} (rw' : RpW N Z' c' w v) (h : leave st.length w st1 = .ok w' st2) :
    ∃ Z'', Ext Z c H Z'' c H' ∧ RelH N Z'' c st2 H' ∧ RpW N Z'' c w' v := by
  unfold leave at h
  by_cases hl : st1.length = st.length
  · rw [if_pos hl] at h
    cases h
    obtain ⟨d, rfl, hd⟩ := x.pre
    have : d = [] := by
      have h1 := R.len
      have h2 := R0.len
      rw [List.length_append] at h1
      exact List.length_eq_zero_iff.mp (by omega)
    subst this
    rw [List.append_nil] at x R rw'
    exact ⟨Z', x, R, rw'⟩
  · rw [if_neg hl] at h
    by_cases ho : oldOnly st.length (st1.take st.length) = true
    · rw [if_pos ho] at h
      obtain ⟨Z'', x2, R2, le, hn, hc⟩ := leave_rel x R0 R ho
      cases e : thaw st1 st.length w with
      | none => rw [e] at h; cases h
      | some w2 =>
        rw [e] at h
        cases h
        refine ⟨Z'', x2, R2, ?_⟩
        cases w with
        | v a => cases e; exact Rp.mono le rw'
        | cel n =>
          obtain ⟨p, hp, rfl⟩ := rw'
          have e : (if n < st.length then some (PV.W.cel n) else match st1[n]? with
            | some (.lst l) => some (PV.W.v (.lst l))
            | some (.dct l) => some (PV.W.v (.dct l))
            | _ => none) = some w' := e
          by_cases hlt : n < st.length
          · rw [if_pos hlt] at e
            cases e
            exact ⟨p, by rw [hc n hlt]; exact hp, rfl⟩
          · rw [if_neg hlt] at e
            cases q : st1[n]? with
            | none => rw [q] at e; cases e
            | some C =>
              rw [q] at e
              have cr := R.cel n p C hp q
              cases C with
              | lst l =>
                cases e
                obtain ⟨vs, h1, h2⟩ := cr
                exact Rp.lst (SqL.of (by rw [hn n p (Nat.le_of_not_lt hlt) hp]; exact h1)) (h2.mono le)
              | dct l =>
                cases e
                obtain ⟨es, ep, h1, h2, h3, h4⟩ := cr
                exact Rp.dct (by rw [hn n p (Nat.le_of_not_lt hlt) hp]; exact h1) (h2.mono le) h3 h4
              | ins k fs => cases e
        | lam _ _ => exact rw'.elim
    · rw [if_neg ho] at h; cases h

/-- a body is what its plain function says -/
theorem fn_sound {P : Program} {w : World} {mg : PySem.Str → Option Value} {base : Heap} {lv : Nat} {f : Addr} {fd : FuncData} {x qual : PySem.Str} {params : Arguments} {body : List Stmt} {scope : Scope} {dvs : List V} {kws : List (PySem.Str × V)} {Nn ps : List PySem.Str}
    {N : Nm} (hw : N.w = w) {i : Nat} {T : Nat → Option FnD} {d : Nat} {pd : FnD} (D : FunD N.K x qual params body scope dvs kws f fd) (S : FnScope Nn ps scope) (hT : T i = some pd) (hp : pd.np = ps.length) (hn : pd.ns = Nn.length)
    (hb : ∀ X : Cx, Fit N X → X.prog = P → X.mg = mg → X.base = base → X.N = Nn → X.env.scope = scope → X.fn = (fun _ => true) → X.stack = X.env :: X.outer → X.env.frame = some X.env.locals → X.ex = [] → PassesOwn (model X.prog X.w) X.A X.env X.xe → Room lv X.A → SndSs N (run T d) X body pd.body) :
    Fk P w N.K mg base (lv + 1) f fd ps (spOf N (run T (d + 1)) i ps.length) := by
  refine Fk.of D S (fun vs H Q E h => ?_) fun cdv A out s H vs Q E rm gu h => ?_
  · obtain ⟨Z, c, st, args, hl, R, ra, _⟩ := h
    rw [← ra.length, hl]
  · obtain ⟨Z, c, st, args, hl, R, ra, h⟩ := h
    unfold run at h
    simp only [hT] at h
    unfold enter at h
    rw [if_pos (by rw [hl, hp])] at h
    have E0 := rel_start (Nn := Nn) ra
    have F : Fit N (cxOf (L2.CX P w) P w N.K mg base Nn qual scope f cdv A out s H E) := ⟨rfl, hw.symm, S.nd, rfl, by have := rm.un; show (A.deeper _).units + 150 < cLine; omega, by have := rm.dp; show (A.deeper _).depth + 4 < _; omega, rm.hd, gu⟩
    have tk : Takes (cxOf (L2.CX P w) P w N.K mg base Nn qual scope f cdv A out s H E) (fun cls d _ H => E cls d H) := takes_of rfl rfl rfl rfl
    refine hb _ F rfl rfl rfl rfl rfl rfl rfl rfl rfl (passes_of rfl) rm _ tk _ st _ Z c H R (by rw [hl, ← hp, ← hn] at E0; exact E0) _ ?_
    have hlen : (Nn.length - args.length) = pd.ns - pd.np := by rw [hl, hp, hn]
    generalize pd.body (run T d) (args.map some ++ List.replicate (pd.ns - pd.np) none) st = r at h ⊢
    cases r with
    | rt w st1 =>
      intro Z' c' H' v x' R' rv
      cases hk : pd.leaks with
      | true => simp only [hk, if_true] at h; exact h Z' c' H' x' R' v rv
      | false =>
        simp only [hk, Bool.false_eq_true, if_false] at h
        cases e : leave st.length w st1 with
        | ok w' st2 =>
          rw [e] at h
          obtain ⟨Z'', x2, R2, rv2⟩ := thaw_ok x' R R' rv e
          exact h Z'' c H' x2 R2 v rv2
        | exc _ _ _ => unfold leave at e; split at e; · cases e
                       · split at e
                         · split at e <;> cases e
                         · cases e
        | bad => rw [e] at h; exact h.elim
    | nx e1 st1 =>
      intro Z' c' H' σ' x' R' E'
      cases hk : pd.leaks with
      | true => simp only [hk, if_true] at h; exact h Z' c' H' x' R' .non .non
      | false =>
        simp only [hk, Bool.false_eq_true, if_false] at h
        cases e : leave st.length (PV.W.v .non) st1 with
        | ok w' st2 =>
          rw [e] at h
          obtain ⟨Z'', x2, R2, rv2⟩ := thaw_ok x' R R' (w := .v .non) (v := .non) .non e
          exact h Z'' c H' x2 R2 .non rv2
        | exc _ _ _ => unfold leave at e; split at e; · cases e
                       · split at e
                         · split at e <;> cases e
                         · cases e
        | bad => rw [e] at h; exact h.elim
    | exc k fs e1 st1 =>
      intro Z' c' H' σ' cls dd x' R' E' ex
      by_cases hl2 : st1.length = st.length
      · simp only [if_pos hl2] at h
        obtain ⟨d2, rfl, hd⟩ := x'.pre
        have : d2 = [] := by
          have h1 := R'.len
          have h2 := R.len
          rw [List.length_append] at h1
          exact List.length_eq_zero_iff.mp (by omega)
        subst this
        rw [List.append_nil] at x' R'
        exact h Z' c H' cls dd x' R' ex
      · simp only [if_neg hl2] at h
        by_cases ho : oldOnly st.length (st1.take st.length) = true
        · simp only [if_pos ho] at h
          obtain ⟨Z'', x2, R2, le, _, _⟩ := leave_rel x' R R' ho
          obtain ⟨e1, d1, g1, e2, e3, e4⟩ := ex
          exact h Z'' c H' cls dd x2 R2 ⟨e1, d1, g1, e2, e3, e4.mono le⟩
        · simp only [if_neg ho] at h; exact h.elim
    | bk _ _ => exact h.elim
    | ct _ _ => exact h.elim
    | bad => exact h.elim

/-! ### calls -/
/-- what a call of the i-th function leans on, in a body -/
structure Callee (N : Nm) (O : Orc) (X : Cx) (lv : Nat) (i : Nat) (x : PySem.Str) (np : Nat) (ds : List A) : Prop where
  ex : ∃ f fd ps, X.mg x = some (.ref f) ∧ Fk X.prog X.w X.K X.mg X.base lv f fd ps (spOf N O i np) ∧ PySem.W.keepIn X.K (.ref f) = true ∧ ps.length = np ∧
    ∀ m, m ≤ np → np - m ≤ ds.length → ∃ us dvs, Vals dvs us ∧ (∀ Z, RpL N Z (ds.drop (ds.length - (np - m))) dvs) ∧ Binds X.K fd ps us

section
variable {N : Nm} {O : Orc} {X : Cx}
theorem no_star (env : PySem.Env) (pos : Pos) : ∀ (l : List Expr), l.all (fun e => !isStar e) = true → (backTo pos (starEach l env)).any (·.1) = false
  | [], _ => rfl
  | e :: l, h => by
    simp only [List.all_cons, Bool.and_eq_true, Bool.not_eq_true'] at h
    rw [star_no h.1]
    have ih := no_star env pos l (by simpa using h.2)
    show (false || (backTo pos (starEach l env)).any (·.1)) = false
    rw [ih]; rfl
/-- the callee runs on these arguments -/
theorem Callee.run {lv i np : Nat} {x : PySem.Str} {ds : List A} {m : Nat} (F : Fit N X) (C : Callee N O X lv i x np ds) (rm : Room lv X.A) (hm : m ≤ np) (hdl : np - m ≤ ds.length) : ∃ f, X.mg x = some (.ref f) ∧ PySem.W.keepIn X.K (.ref f) = true ∧
    ∀ {Y : WX} (tk : Takes X Y) {pins σ} {us : List Value} {s1 : Shared} {vs : List V} {Z1 c1 H1 st1} {l : List PV.W} {Q : VK}, Inv X pins σ H1 s1 → RelH N Z1 c1 st1 H1 → RpWs N Z1 c1 l vs → l.length = m → Vals vs us →
      Outc N Y σ Z1 c1 H1 (O i (l ++ (ds.drop (ds.length - (np - m))).map W.v) st1) (fun w Z' c' H' => ∀ v, RpW N Z' c' w v → Q v H') →
      wpAny (model X.prog X.w) X.A (PySem.call (.ref f) us) (EP X pins σ Q) X.xe s1 := by
  obtain ⟨f, fd, ps, mgx, Fk, kp, hps, hbd⟩ := C.ex
  obtain ⟨us2, dvs, rd, rds, bd⟩ := hbd m hm hdl
  refine ⟨f, mgx, kp, ?_⟩
  intro Y tk pins σ us s1 vs Z1 c1 H1 st1 l Q I1 R1 rl hl rv h
  have r2 : Vals (vs ++ dvs) (us ++ us2) := rv.append rd
  have q : spOf N O i np (vs ++ dvs) H1 Q (fun cls d H' => Y cls d σ H') := by
    refine ⟨Z1, c1, st1, _, ?_, R1, rl.append (RpL.ws (rds Z1)), ?_⟩
    · rw [List.length_append, hl, List.length_map, List.length_drop]
      omega
    · cases eO : O i (l ++ (ds.drop (ds.length - (np - m))).map W.v) st1 with
      | ok w st2 => rw [eO] at h; exact h
      | exc k fs st2 => rw [eO] at h; exact h
      | bad => rw [eO] at h; exact h.elim
  have hl2 : (us ++ us2).length = ps.length := by rw [← r2.length]; exact Fk.lens _ _ _ _ q
  exact Fk.call tk (ar := ⟨us, []⟩) rm F.gu (bd s1 us I1.kIn hl2) I1 r2 q
theorem snd_call {lv i np : Nat} {x : PySem.Str} {ds : List A} {e : Expr} {es : List Expr} {xs : Es} {m : Nat} {p pos : Pos} (F : Fit N X) (C : Callee N O X lv i x np ds) (rm : Room lv X.A) (hg : Gl X x) (hd : (x == ("__debug__" : PySem.Str)) = false)
    (hst : (e :: es).all (fun e => !isStar e) = true) (hm : m ≤ np) (hdl : np - m ≤ ds.length) (hl : ∀ env st l st1, xs O env st = .ok l st1 → l.length = m) (ha : SndA N O X (e :: es) xs) :
    SndE N O X (.Call (.Name x p) (e :: es) [] pos) (eCall i (esDef xs (ds.drop (ds.length - (np - m))))) := by
  intro Y tk env st σ Z c H R E Q h pins s I
  obtain ⟨f, mgx, kp, run⟩ := C.run F rm hm hdl
  refine wpAny_Call_Name_kw (ld_glob I hg mgx ?_ hd)
  have hs := hst
  simp only [List.all_cons, Bool.and_eq_true, Bool.not_eq_true'] at hs
  have key : WA X (e :: es) σ H fun vs H1 => ∃ Z1 c1 st1 l, RelH N Z1 c1 st1 H1 ∧ RpWs N Z1 c1 l vs ∧ l.length = m ∧ Outc N Y σ Z1 c1 H1 (O i (l ++ (ds.drop (ds.length - (np - m))).map W.v) st1) (fun w Z' c' H' => ∀ v, RpW N Z' c' w v → Q v H') := by
    refine ha Y tk env st σ Z c H R E _ ?_
    have h : Outc N Y σ Z c H (((xs O env st).bind fun l st1 => .ok (l ++ (ds.drop (ds.length - (np - m))).map W.v) st1).bind fun l st1 => O i l st1) _ := h
    cases ex : xs O env st with
    | ok l st1 =>
      rw [ex] at h
      exact fun Z1 c1 H1 x1 R1 vs rvs => ⟨Z1, c1, st1, l, R1, rvs, hl env st l st1 ex, Outc.mono h x1 fun _ _ _ _ _ q => q⟩
    | exc k fs st1 => rw [ex] at h; exact h
    | bad => rw [ex] at h; exact h.elim
  refine PySem.W.callWith_K (h₀ := X.base) I.ok.mod.kin kp (thn (key pos pins s I) fun us s1 ⟨vs, H1, I1, r1, Z1, c1, st1, l, R1, rl, hll, q⟩ => ⟨I1.kIn, run tk I1 R1 rl hll r1 q⟩) (star_no hs.1 _ _) (no_star _ _ es (by simpa using hs.2))
theorem snd_call0 {lv i np : Nat} {x : PySem.Str} {ds : List A} {p pos : Pos} (F : Fit N X) (C : Callee N O X lv i x np ds) (rm : Room lv X.A) (hg : Gl X x) (hd : (x == ("__debug__" : PySem.Str)) = false) (hdl : np ≤ ds.length) :
    SndE N O X (.Call (.Name x p) [] [] pos) (eCall i (esDef esNil (ds.drop (ds.length - (np - 0))))) := by
  intro Y tk env st σ Z c H R E Q h pins s I
  obtain ⟨f, mgx, kp, run⟩ := C.run (m := 0) F rm (Nat.zero_le _) (by omega)
  refine wpAny_Call_Name_kw (ld_glob I hg mgx ?_ hd)
  exact PySem.W.callWith_K0 I.kIn kp (run tk (l := []) I R .nil rfl .nil h)
end
end PV
end
section
set_option linter.all false
set_option Elab.async false
set_option maxRecDepth 100000
set_option maxHeartbeats 4000000
/-! PV5: what loops walk. -/
namespace PV
open PySem PySem.Spec PyProof.Rows L2

/-- a list or a tuple that is walked -/
inductive Kd where
  | lst (a : Addr) | tup (a : Addr)
def Kd.ad : Kd → Addr
  | .lst a => a
  | .tup a => a
def Kd.q (K : PySem.W.Frag) (H : Hp) : Kd → List V → Prop
  | .lst a, xs => SqL K H a xs
  | .tup a, xs => SqT K H a xs
def Kd.st (it : Addr) (i : Nat) (h : Heap) : Kd → Prop
  | .lst a => h.IsListIter it a i
  | .tup a => h.IsTupleIter it a i
def Kd.ob : Kd → Obj
  | .lst a => { cls := .type "list_iterator", data := .fields #[.ref a, .int 0 0] }
  | .tup a => { cls := .type "tuple_iterator", data := .fields #[.ref a, .int 0 0] }
def Kd.has (h : Heap) (its : Array Value) : Kd → Prop
  | .lst a => h.IsList a its
  | .tup a => h.IsTuple a its
theorem Kd.items {X : Cx} {pins σ H s} (I : Inv X pins σ H s) {k : Kd} {xs : List V} (hq : k.q X.K H xs) : ∃ its : List Value, Vals xs its ∧ k.has s.heap its.toArray ∧ xs.length ≤ sizeLine := by
  cases k with
  | lst a => obtain ⟨its, rv, p, hz⟩ := I.list hq; exact ⟨its, rv, p.isList, hz⟩
  | tup a => obtain ⟨its, rv, p, hz⟩ := I.tuple hq; exact ⟨its, rv, p, hz⟩
theorem Kd.inj {X : Cx} {pins σ H s} (I : Inv X pins σ H s) {k : Kd} {xs ys : List V} (h : k.q X.K H xs) (h' : k.q X.K H ys) : xs = ys := by
  cases k with
  | lst a => exact I.list_inj h h'
  | tup a => exact I.tuple_inj h h'
theorem Kd.begins (k : Kd) (its : Array Value) : Begins (.ref k.ad) k.ob (fun h => k.has h its) := by
  cases k with
  | lst a => exact begins_list a its
  | tup a => exact begins_tuple a its
theorem Kd.st0 {k : Kd} {it : Addr} {h : Heap} (e : h.get? it = some k.ob) : k.st it 0 h := by
  cases k with
  | lst a => exact ⟨_, e, rfl, rfl⟩
  | tup a => exact ⟨_, e, rfl, rfl⟩
theorem Kd.draws {prog : Program} {w : World} {A : Around} (hh : A.handled = none) (it : Addr) (k : Kd) (hne : k.ad ≠ it) (its : Array Value) : Draws prog w A it [it, k.ad] its.size (fun i v => its[i]? = some v) (fun i h => k.st it i h ∧ k.has h its) := by
  cases k with
  | lst a => exact Draws.list hh it a hne its
  | tup a => exact Draws.tuple hh it a hne its
theorem Kd.obj {k : Kd} {it : Addr} {i : Nat} {h : Heap} (st : k.st it i h) : ∃ o, h.get? it = some o ∧ ∀ v, o.data ≠ .cell v := by
  cases k with
  | lst a => obtain ⟨o, e, _, d⟩ := st; exact ⟨o, e, fun v z => by rw [d] at z; cases z⟩
  | tup a => obtain ⟨o, e, _, d⟩ := st; exact ⟨o, e, fun v z => by rw [d] at z; cases z⟩
theorem Kd.at {k : Kd} {it : Addr} {i : Nat} {h h' : Heap} (st : k.st it i h) (e : ∀ o, h.get? it = some o → h'.get? it = some o) : k.st it i h' := by
  cases k with
  | lst a => exact Heap.IsListIter.at st e
  | tup a => exact Heap.IsTupleIter.at st e
theorem Kd.lt {k : Kd} {h : Heap} {its : Array Value} (p : k.has h its) : k.ad < h.objs.size := by
  cases k with
  | lst a => obtain ⟨o, e, _⟩ := p; exact Heap.lt_size e
  | tup a => obtain ⟨o, e, _⟩ := p; exact Heap.lt_size e
theorem Kd.mono {K : PySem.W.Frag} {H H' : Hp} {k : Kd} {xs} (h : ∀ o, H k.ad = some o → H' k.ad = some o) (q : k.q K H xs) : k.q K H' xs := by
  cases k with
  | lst a =>
    rcases q with (q | ⟨o, q⟩) | q
    · exact .inl (.inl (h _ q))
    · exact .inl (.inr ⟨o, h _ q⟩)
    · exact .inr q
  | tup a =>
    rcases q with (q | ⟨o, q⟩) | q
    · exact .inl (.inl (h _ q))
    · exact .inl (.inr ⟨o, h _ q⟩)
    · exact .inr q

/-- the walked list now, and later while it has to stay -/
theorem srcq_ok {N : Nm} {Z c st H w v l ok} (R : RelH N Z c st H) (r : RpW N Z c w v) (h : srcq st w = some (l, ok)) :
    ∃ k : Kd, v = .ref k.ad ∧ (∃ vs, k.q N.K H vs ∧ RpL N Z l vs) ∧ ∀ Z' c' st' H', Ext0 Z c Z' c' → RelH N Z' c' st' H' → ok st' = true → ∃ vs, k.q N.K H' vs ∧ RpL N Z' l vs := by
  cases w with
  | v a =>
    cases a with
    | tup m =>
      cases h
      cases r with
      | tup q rl => exact ⟨.tup _, rfl, ⟨_, R.sub.sqT q, rl⟩, fun Z' c' st' H' x R' _ => ⟨_, R'.sub.sqT (x.zz.sqT q), rl.mono x.zz⟩⟩
    | lst m =>
      cases h
      cases r with
      | lst q rl => exact ⟨.lst _, rfl, ⟨_, R.sub.sqL q, rl⟩, fun Z' c' st' H' x R' _ => ⟨_, R'.sub.sqL (x.zz.sqL q), rl.mono x.zz⟩⟩
    | _ => cases h
  | cel n =>
    obtain ⟨p, hp, rfl⟩ := r
    have h : (match st[n]? with
      | some (.lst l) => some (l, fun st' => match st'[n]? with
        | some (.lst l') => A.sameL l l'
        | _ => false)
      | _ => none) = some (l, ok) := h
    cases e : st[n]? with
    | none => rw [e] at h; cases h
    | some C =>
      rw [e] at h
      cases C with
      | lst m =>
        cases h
        obtain ⟨vs, h1, h2⟩ := R.cel n p _ hp e
        refine ⟨.lst p, rfl, ⟨vs, SqL.of h1, h2⟩, fun Z' c' st' H' x R' ho => ?_⟩
        dsimp only at ho
        cases e' : st'[n]? with
        | none => rw [e'] at ho; cases ho
        | some C' =>
          rw [e'] at ho
          cases C' with
          | lst m' =>
            have := A.sameL_eq (show A.sameL _ _ = true from ho)
            subst this
            obtain ⟨vs', h1', h2'⟩ := R'.cel n p _ (x.get hp) e'
            exact ⟨vs', SqL.of h1', h2'⟩
          | dct _ => cases ho
          | ins _ _ => cases ho
      | dct _ => cases h
      | ins _ _ => cases h
  | lam _ _ => exact r.elim

section
variable {X : Cx} {tg : Expr} {pins : List (Addr × Obj)} {σ : Sl} {H : Hp} {s : Shared} {R : L2.It → Hp → Prop}
theorem it_list {a : Addr} {xs : List V} (I : Inv X pins σ H s) (hq : SqL X.K H a xs) (q : R (Itl X.K a) H) : wpAny (model X.prog X.w) X.A (pyIter (.ref a)) (PIE X pins σ tg R) X.xe s := by
  obtain ⟨its, rv, p, hz⟩ := I.list hq
  refine wpAny_pyIter_list p.isList ?_
  exact pi_one (tk := s.toks) I _ (turn_list a _) ⟨_, Heap.get?_push_size _ rfl, rfl, rfl⟩ q
theorem it_tup {a : Addr} {xs : List V} (I : Inv X pins σ H s) (hq : SqT X.K H a xs) (q : R (Itt X.K a) H) : wpAny (model X.prog X.w) X.A (pyIter (.ref a)) (PIE X pins σ tg R) X.xe s := by
  obtain ⟨its, rv, p, hz⟩ := I.tuple hq
  refine wpAny_pyIter_tuple (show s.heap.IsTuple a its.toArray from p) ?_
  exact pi_one (tk := s.toks) I _ (turn_tuple a _) ⟨_, Heap.get?_push_size _ rfl, rfl, rfl⟩ q
theorem it_str {x : PySem.Str} {t : Tok} (I : Inv X pins σ H s) (q : R (Its x) H) : wpAny (model X.prog X.w) X.A (pyIter (.str x t)) (PIE X pins σ tg R) X.xe s := by
  cases ha : x.cps.all (· < 128)
  · exact wpAny_pyIter_wide ha (pi_one (tk := s.toks) I _ (turn_str _ x t "str_iterator" (.inr rfl)) ⟨_, Heap.get?_push_size _ rfl, rfl, rfl⟩ q)
  · exact wpAny_pyIter_ascii ha (pi_one (tk := s.toks) I _ (turn_str _ x t "str_ascii_iterator" (.inl rfl)) ⟨_, Heap.get?_push_size _ rfl, rfl, rfl⟩ q)
end

/-- a list's, a tuple's iterator walks these items -/
def Kd.it (K : PySem.W.Frag) : Kd → L2.It
  | .lst a => Itl K a
  | .tup a => Itt K a
theorem Kd.iter {X : Cx} {tg : Expr} {pins σ H s} {R : L2.It → Hp → Prop} (I : Inv X pins σ H s) {k : Kd} {xs} (hq : k.q X.K H xs) (q : R (k.it X.K) H) : wpAny (model X.prog X.w) X.A (pyIter (.ref k.ad)) (PIE X pins σ tg R) X.xe s := by
  cases k with
  | lst a => exact it_list I hq q
  | tup a => exact it_tup I hq q
theorem Kd.walk {N : Nm} {k : Kd} {Z c H l} {ok : Sto → Bool} (h : ∀ Z' c' st' H', Ext0 Z c Z' c' → RelH N Z' c' st' H' → ok st' = true → ∃ vs, k.q N.K H' vs ∧ RpL N Z' l vs) : WalkOk N (k.it N.K) Z c H l ok := by
  intro i Z' c' st' H' x R ho
  obtain ⟨vs, q, rl⟩ := h Z' c' st' H' x R ho
  refine ⟨fun a ea => ?_, fun e => ?_⟩
  · obtain ⟨v, ev, ra⟩ := rl.get ea
    cases k with
    | lst p => exact ⟨⟨vs, v, q, ev⟩, fun x H2 ⟨e1, e2⟩ => by
        subst e1
        have := e2 vs q
        rw [ev] at this; cases this
        exact ⟨Z', Ext.refl .., R, ra⟩⟩
    | tup p => exact ⟨⟨vs, v, q, ev⟩, fun x H2 ⟨e1, e2⟩ => by
        subst e1
        have := e2 vs q
        rw [ev] at this; cases this
        exact ⟨Z', Ext.refl .., R, ra⟩⟩
  · have hl : vs.length ≤ i := by rw [← rl.length]; omega
    cases k with
    | lst p => exact ⟨vs, q, hl⟩
    | tup p => exact ⟨vs, q, hl⟩
theorem walk_str {N : Nm} {s : List Nat} {Z c H} {ok : Sto → Bool} : WalkOk N (Its (S s)) Z c H (s.map fun c => .str [c]) ok := by
  intro i Z' c' st' H' x R ho
  have hz : (S s).cps.size = s.length := by simp [S]
  refine ⟨fun a ea => ?_, fun e => ?_⟩
  · have hi : i < s.length := by have := (List.getElem?_eq_some_iff.mp ea).1; simpa using this
    refine ⟨by show i < (S s).cps.size; rw [hz]; exact hi, ?_⟩
    rintro x H2 ⟨rfl, c2, hc, rfl⟩
    have : s[i]? = some c2 := by simpa [S] using hc
    simp [this] at ea
    subst ea
    exact ⟨Z', Ext.refl .., R, .str [c2]⟩
  · show (S s).cps.size ≤ i
    rw [hz]; simp at e; omega
theorem walk_rng {N : Nm} {lo : Int} {n : Nat} {Z c H} {ok : Sto → Bool} : WalkOk N (Itr lo n) Z c H (upTo lo n) ok := by
  intro i Z' c' st' H' x R ho
  refine ⟨fun a ea => ?_, fun e => ?_⟩
  · have hi : i < n := by have := (List.getElem?_eq_some_iff.mp ea).1; simpa [upTo] using this
    refine ⟨hi, ?_⟩
    rintro x H2 ⟨rfl, rfl⟩
    simp [upTo, hi] at ea
    subst ea
    exact ⟨Z', Ext.refl .., R, .int _⟩
  · show n ≤ i
    simp [upTo] at e; omega

/-! ### zip, enumerate -/
def J2 (K : PySem.W.Frag) (k1 k2 : Kd) : L2.It :=
  ⟨fun i H => ∃ xs ys, k1.q K H xs ∧ k2.q K H ys ∧ i < min xs.length ys.length,
   fun i H v H' => ∃ T x y, v = .ref T ∧ H T = none ∧ H' = upd H T (.tup [x, y]) ∧ (∀ xs, k1.q K H xs → xs[i]? = some x) ∧ ∀ ys, k2.q K H ys → ys[i]? = some y,
   fun i H => ∃ xs ys, k1.q K H xs ∧ k2.q K H ys ∧ i = min xs.length ys.length⟩
theorem Vals.getu {vs : List V} {us : List Value} (r : Vals vs us) {i : Nat} {u : Value} (h : us[i]? = some u) : ∃ v, vs[i]? = some v ∧ RelV v u := by
  have hl := r.length
  have hi : i < vs.length := by rw [hl]; exact (List.getElem?_eq_some_iff.mp h).1
  obtain ⟨u', h1, h2⟩ := r.get (List.getElem?_eq_getElem hi)
  rw [h] at h1; cases h1
  exact ⟨_, List.getElem?_eq_getElem hi, h2⟩
/-- the turn of a GoesN whose items are new tuples -/
theorem turn_new {X : Cx} {pins σ H} {s : Shared} {tg : Expr} {z : Addr} {fp wr : List Addr} {n : Nat} {Y : Nat → Heap → Value → Heap → Prop} {St : Nat → Heap → Prop} {J : L2.It} {tn : Nat → Heap → Prop} {i : Nat} {E : Value → Shared → Prop} {fps : List Addr}
    (W : GoesN X.prog X.w X.A tg z fp wr n Y St) (I : Inv X pins σ H s) (hf : ∀ b ∈ fps, FpOk X pins H b) (hw : ∀ b ∈ wr, b ∈ fps) (hlt : ∀ b ∈ fps, b < s.heap.objs.size) (hi : i < n) (st : St i s.heap)
    (hY : ∀ v h', Y i s.heap v h' → ∃ T us xs, v = .ref T ∧ s.heap.objs.size ≤ T ∧ h'.IsTuple T us.toArray ∧ Vals xs us ∧ xs.length ≤ sizeLine ∧ J.yld i H (.ref T) (upd H T (.tup xs)))
    (hS : ∀ h', St (i + 1) h' → tn (i + 1) h') :
    wpAny (model X.prog X.w) X.A (pyNext (.ref z)) (fun r s1 => ∃ u, r = some u ∧
      wpAny (model X.prog X.w) X.A (letOwnedTupleGo tg (.ref z) u) (fun _ s2 => ∃ x H', Inv X pins σ H' s2 ∧ RelV x u ∧ J.yld i H x H' ∧ tn (i + 1) s2.heap ∧ ∀ b ∈ fps, H' b = none) E s1) E s := by
  refine W.goes i s (fun v s2 => ∃ x H', Inv X pins σ H' s2 ∧ RelV x v ∧ J.yld i H x H' ∧ tn (i + 1) s2.heap ∧ ∀ b ∈ fps, H' b = none) E hi st fun v h' tk y st' hk htk => ?_
  obtain ⟨T, us, xs, rfl, hT, hI, rv, hz, hy⟩ := hY v h' y
  have I1 : Inv X pins σ (upd H T (.tup xs)) { s with heap := h', toks := tk } := I.turnedNew (ch := wr) (T := T) hk (fun b hb => hf b (hw b hb)) hT ⟨hz, us, rv, hI⟩
  refine ⟨.ref T, _, I1, rfl, hy, hS h' st', fun b hb => ?_⟩
  rw [upd_ne (Nat.ne_of_lt (Nat.lt_of_lt_of_le (hlt b hb) hT))]
  exact (hf b hb).1
theorem turn_stop {X : Cx} {pins σ H} {s : Shared} {tg : Expr} {z : Addr} {fp wr : List Addr} {n : Nat} {Y : Nat → Heap → Value → Heap → Prop} {St : Nat → Heap → Prop} {E : Value → Shared → Prop} {fps : List Addr}
    (W : GoesN X.prog X.w X.A tg z fp wr n Y St) (I : Inv X pins σ H s) (hf : ∀ b ∈ fps, FpOk X pins H b) (hw : ∀ b ∈ wr, b ∈ fps) (st : St n s.heap) :
    wpAny (model X.prog X.w) X.A (pyNext (.ref z)) (fun r s1 => r = none ∧ Inv X pins σ H s1) E s :=
  W.stops s (fun s1 => Inv X pins σ H s1) E st fun h' tk hk htk => I.turnedL hk fun b hb => hf b (hw b hb)

def tn2 (z TI TO i1 i2 : Addr) (k1 k2 : Kd) (i : Nat) (h : Heap) : Prop := IsZip h z TI TO .none ∧ IsTupOf2 h TI (.ref i1) (.ref i2) ∧ (∃ x y, IsTupOf2 h TO x y) ∧ k1.st i1 i h ∧ k2.st i2 i h
theorem tn2_lt {z TI TO i1 i2 : Addr} {k1 k2 : Kd} {i : Nat} {h : Heap} (t : tn2 z TI TO i1 i2 k1 k2 i h) : ∀ b ∈ [z, TI, TO, i1, i2], ∃ o, h.get? b = some o ∧ ∀ v, o.data ≠ .cell v := by
  obtain ⟨hz, hTI, ⟨x, y, hTO⟩, h1, h2⟩ := t
  intro c hc
  have e' : c = z ∨ c = TI ∨ c = TO ∨ c = i1 ∨ c = i2 := by simpa using hc
  rcases e' with q | q | q | q | q
  · rw [q]; exact ⟨_, hz, fun v q => nomatch q⟩
  · rw [q]; exact ⟨_, hTI, fun v q => nomatch q⟩
  · rw [q]; exact ⟨_, hTO, fun v q => nomatch q⟩
  · rw [q]; exact Kd.obj h1
  · rw [q]; exact Kd.obj h2
theorem turn_zip2 {P : Program} {w : World} {K : PySem.W.Frag} {elts : List Expr} {kk : Nat} {tpos : Pos} {k1 k2 : Kd} {z TI TO i1 i2 : Addr} (D : ZipSep2 z TI TO i1 i2 [i1, k1.ad] [i2, k2.ad]) (n1 : k1.ad ≠ i1) (n2 : k2.ad ≠ i2) :
    Turn P w K (.Tuple elts kk tpos) (J2 K k1 k2) [z, TI, TO, i1, i2] z (tn2 z TI TO i1 i2 k1 k2) where
  mem := by simp
  obj := fun i h st => tn2_lt st
  keep := fun i h h' st k => by
    obtain ⟨hz, hTI, ⟨x, y, hTO⟩, h1, h2⟩ := st
    exact ⟨k z (by simp) _ hz, k TI (by simp) _ hTI, ⟨x, y, k TO (by simp) _ hTO⟩, Kd.at h1 fun o q => k i1 (by simp) o q, Kd.at h2 fun o q => k i2 (by simp) o q⟩
  item := by
    intro X hP hw hK hc i pins s σ H E I hf st hg
    subst hP hw hK
    obtain ⟨xs, ys, q1, q2, hi⟩ := hg
    obtain ⟨its1, rv1, p1, _⟩ := Kd.items I q1
    obtain ⟨its2, rv2, p2, _⟩ := Kd.items I q2
    have hh : X.A.in1.handled = none := I.ok.hd hc
    have l1 := rv1.length
    have l2 := rv2.length
    refine turn_new (tn := tn2 z TI TO i1 i2 k1 k2) (GoesN.zip2 (elts := elts) (x1 := kk) (pos := tpos) D (Kd.draws (prog := X.prog) (w := X.w) hh i1 k1 n1 its1.toArray) (Kd.draws (prog := X.prog) (w := X.w) hh i2 k2 n2 its2.toArray)) I hf (by simp) (fun b hb => let ⟨o, e, _⟩ := tn2_lt st b hb; Heap.lt_size e) (by simp; omega) ?_ ?_ ?_
    · obtain ⟨hz, hTI, hTO, h1, h2⟩ := st
      exact ⟨hz, hTI, hTO, ⟨h1, p1⟩, h2, p2⟩
    · rintro v h' ⟨T, x, y, rfl, hT, hx, hy, ht⟩
      obtain ⟨vx, ex, rx⟩ := Vals.getu rv1 (by simpa using hx)
      obtain ⟨vy, ey, ry⟩ := Vals.getu rv2 (by simpa using hy)
      exact ⟨T, [x, y], [vx, vy], rfl, hT, ht, .cons rx (.cons ry .nil), by show 2 ≤ sizeLine; decide, T, vx, vy, rfl, I.hok.fresh hT, rfl, fun l hl => by rw [Kd.inj I hl q1]; exact ex, fun l hl => by rw [Kd.inj I hl q2]; exact ey⟩
    · rintro h' ⟨hz, hTI, hTO, h1, h2⟩
      exact ⟨hz, hTI, hTO, h1.1, h2.1⟩
  done := by
    intro X hP hw hK hc i pins s σ H E I hf st hg
    subst hP hw hK
    obtain ⟨xs, ys, q1, q2, hi⟩ := hg
    obtain ⟨its1, rv1, p1, _⟩ := Kd.items I q1
    obtain ⟨its2, rv2, p2, _⟩ := Kd.items I q2
    have hh : X.A.in1.handled = none := I.ok.hd hc
    have l1 := rv1.length
    have l2 := rv2.length
    have hi : i = min its1.toArray.size its2.toArray.size := by simp; omega
    subst hi
    refine turn_stop (GoesN.zip2 (elts := elts) (x1 := kk) (pos := tpos) D (Kd.draws (prog := X.prog) (w := X.w) hh i1 k1 n1 its1.toArray) (Kd.draws (prog := X.prog) (w := X.w) hh i2 k2 n2 its2.toArray)) I hf (by simp) ?_
    obtain ⟨hz, hTI, hTO, h1, h2⟩ := st
    exact ⟨hz, hTI, hTO, ⟨h1, p1⟩, h2, p2⟩
  self := fun A i s Q E st h => wpAny_pyIter_zip st.1 h
theorem RpL.tup2 {N : Nm} {Z c st H} (R : RelH N Z c st H) {a b x y} (ra : Rp N Z a x) (rb : Rp N Z b y) {T : Addr} (hT : H T = none) : ∃ Z', Ext Z c H Z' c (upd H T (.tup [x, y])) ∧ RelH N Z' c st (upd H T (.tup [x, y])) ∧ Rp N Z' (.tup [a, b]) (.ref T) := by
  obtain ⟨x2, R2⟩ := ext_new (o := .tup [x, y]) R hT
  exact ⟨_, x2, R2, .tup (SqT.of upd_same) (.cons (ra.mono x2.zz) (.cons (rb.mono x2.zz) .nil))⟩
theorem zip2_get {l m : List A} {i : Nat} {a : A} (h : (zip2 l m)[i]? = some a) : ∃ x y, l[i]? = some x ∧ m[i]? = some y ∧ a = .tup [x, y] := by
  unfold zip2 at h
  rw [List.getElem?_map] at h
  cases e : (l.zip m)[i]? with
  | none => rw [e] at h; cases h
  | some p =>
    rw [e] at h; cases h
    obtain ⟨h1, h2⟩ := List.getElem?_zip_eq_some.mp e
    exact ⟨p.1, p.2, h1, h2, rfl⟩
theorem walk_zip2 {N : Nm} {k1 k2 : Kd} {Z c H l m} {ok1 ok2 : Sto → Bool} (h1 : ∀ Z' c' st' H', Ext0 Z c Z' c' → RelH N Z' c' st' H' → ok1 st' = true → ∃ vs, k1.q N.K H' vs ∧ RpL N Z' l vs) (h2 : ∀ Z' c' st' H', Ext0 Z c Z' c' → RelH N Z' c' st' H' → ok2 st' = true → ∃ vs, k2.q N.K H' vs ∧ RpL N Z' m vs) :
    WalkOk N (J2 N.K k1 k2) Z c H (zip2 l m) (fun st' => ok1 st' && ok2 st') := by
  intro i Z' c' st' H' x R ho
  simp only [Bool.and_eq_true] at ho
  obtain ⟨vs, q1, r1⟩ := h1 Z' c' st' H' x R ho.1
  obtain ⟨us, q2, r2⟩ := h2 Z' c' st' H' x R ho.2
  have l1 := r1.length
  have l2 := r2.length
  refine ⟨fun a ea => ?_, fun e => ⟨vs, us, q1, q2, by rw [e]; simp [zip2]; omega⟩⟩
  obtain ⟨a1, a2, e1, e2, rfl⟩ := zip2_get ea
  obtain ⟨v1, f1, g1⟩ := r1.get e1
  obtain ⟨v2, f2, g2⟩ := r2.get e2
  refine ⟨⟨vs, us, q1, q2, ?_⟩, ?_⟩
  · have := (List.getElem?_eq_some_iff.mp f1).1
    have := (List.getElem?_eq_some_iff.mp f2).1
    omega
  · rintro v H2 ⟨T, v1', v2', rfl, hT, rfl, k1', k2'⟩
    have e1' := k1' vs q1
    have e2' := k2' us q2
    rw [f1] at e1'; cases e1'
    rw [f2] at e2'; cases e2'
    exact RpL.tup2 R g1 g2 hT

def J3 (K : PySem.W.Frag) (k1 k2 k3 : Kd) : L2.It :=
  ⟨fun i H => ∃ xs ys zs, k1.q K H xs ∧ k2.q K H ys ∧ k3.q K H zs ∧ i < min (min xs.length ys.length) zs.length,
   fun i H v H' => ∃ T x y u, v = .ref T ∧ H T = none ∧ H' = upd H T (.tup [x, y, u]) ∧ (∀ xs, k1.q K H xs → xs[i]? = some x) ∧ (∀ ys, k2.q K H ys → ys[i]? = some y) ∧ ∀ zs, k3.q K H zs → zs[i]? = some u,
   fun i H => ∃ xs ys zs, k1.q K H xs ∧ k2.q K H ys ∧ k3.q K H zs ∧ i = min (min xs.length ys.length) zs.length⟩
def tn3 (z TI TO i1 i2 i3 : Addr) (k1 k2 k3 : Kd) (i : Nat) (h : Heap) : Prop := IsZip h z TI TO .none ∧ IsTupOf3 h TI (.ref i1) (.ref i2) (.ref i3) ∧ (∃ x y u, IsTupOf3 h TO x y u) ∧ k1.st i1 i h ∧ k2.st i2 i h ∧ k3.st i3 i h
theorem tn3_lt {z TI TO i1 i2 i3 : Addr} {k1 k2 k3 : Kd} {i : Nat} {h : Heap} (t : tn3 z TI TO i1 i2 i3 k1 k2 k3 i h) : ∀ b ∈ [z, TI, TO, i1, i2, i3], ∃ o, h.get? b = some o ∧ ∀ v, o.data ≠ .cell v := by
  obtain ⟨hz, hTI, ⟨x, y, u, hTO⟩, h1, h2, h3⟩ := t
  intro c hc
  have e' : c = z ∨ c = TI ∨ c = TO ∨ c = i1 ∨ c = i2 ∨ c = i3 := by simpa using hc
  rcases e' with q | q | q | q | q | q
  · rw [q]; exact ⟨_, hz, fun v q => nomatch q⟩
  · rw [q]; exact ⟨_, hTI, fun v q => nomatch q⟩
  · rw [q]; exact ⟨_, hTO, fun v q => nomatch q⟩
  · rw [q]; exact Kd.obj h1
  · rw [q]; exact Kd.obj h2
  · rw [q]; exact Kd.obj h3
theorem turn_zip3 {P : Program} {w : World} {K : PySem.W.Frag} {elts : List Expr} {kk : Nat} {tpos : Pos} {k1 k2 k3 : Kd} {z TI TO i1 i2 i3 : Addr} (D : ZipSep3 z TI TO i1 i2 i3 [i1, k1.ad] [i2, k2.ad] [i3, k3.ad]) (n1 : k1.ad ≠ i1) (n2 : k2.ad ≠ i2) (n3 : k3.ad ≠ i3) :
    Turn P w K (.Tuple elts kk tpos) (J3 K k1 k2 k3) [z, TI, TO, i1, i2, i3] z (tn3 z TI TO i1 i2 i3 k1 k2 k3) where
  mem := by simp
  obj := fun i h st => tn3_lt st
  keep := fun i h h' st k => by
    obtain ⟨hz, hTI, ⟨x, y, u, hTO⟩, h1, h2, h3⟩ := st
    exact ⟨k z (by simp) _ hz, k TI (by simp) _ hTI, ⟨x, y, u, k TO (by simp) _ hTO⟩, Kd.at h1 fun o q => k i1 (by simp) o q, Kd.at h2 fun o q => k i2 (by simp) o q, Kd.at h3 fun o q => k i3 (by simp) o q⟩
  item := by
    intro X hP hw hK hc i pins s σ H E I hf st hg
    subst hP hw hK
    obtain ⟨xs, ys, zs, q1, q2, q3, hi⟩ := hg
    obtain ⟨its1, rv1, p1, _⟩ := Kd.items I q1
    obtain ⟨its2, rv2, p2, _⟩ := Kd.items I q2
    obtain ⟨its3, rv3, p3, _⟩ := Kd.items I q3
    have hh : X.A.in1.handled = none := I.ok.hd hc
    have l1 := rv1.length
    have l2 := rv2.length
    have l3 := rv3.length
    refine turn_new (tn := tn3 z TI TO i1 i2 i3 k1 k2 k3) (GoesN.zip3 (elts := elts) (x1 := kk) (pos := tpos) D (Kd.draws (prog := X.prog) (w := X.w) hh i1 k1 n1 its1.toArray) (Kd.draws (prog := X.prog) (w := X.w) hh i2 k2 n2 its2.toArray) (Kd.draws (prog := X.prog) (w := X.w) hh i3 k3 n3 its3.toArray)) I hf (by simp) (fun b hb => let ⟨o, e, _⟩ := tn3_lt st b hb; Heap.lt_size e) (by simp; omega) ?_ ?_ ?_
    · obtain ⟨hz, hTI, hTO, h1, h2, h3⟩ := st
      exact ⟨hz, hTI, hTO, ⟨h1, p1⟩, ⟨h2, p2⟩, h3, p3⟩
    · rintro v h' ⟨T, x, y, u, rfl, hT, hx, hy, hu, ht⟩
      obtain ⟨vx, ex, rx⟩ := Vals.getu rv1 (by simpa using hx)
      obtain ⟨vy, ey, ry⟩ := Vals.getu rv2 (by simpa using hy)
      obtain ⟨vu, eu, ru⟩ := Vals.getu rv3 (by simpa using hu)
      exact ⟨T, [x, y, u], [vx, vy, vu], rfl, hT, ht, .cons rx (.cons ry (.cons ru .nil)), by show 3 ≤ sizeLine; decide, T, vx, vy, vu, rfl, I.hok.fresh hT, rfl, fun l hl => by rw [Kd.inj I hl q1]; exact ex, fun l hl => by rw [Kd.inj I hl q2]; exact ey, fun l hl => by rw [Kd.inj I hl q3]; exact eu⟩
    · rintro h' ⟨hz, hTI, hTO, h1, h2, h3⟩
      exact ⟨hz, hTI, hTO, h1.1, h2.1, h3.1⟩
  done := by
    intro X hP hw hK hc i pins s σ H E I hf st hg
    subst hP hw hK
    obtain ⟨xs, ys, zs, q1, q2, q3, hi⟩ := hg
    obtain ⟨its1, rv1, p1, _⟩ := Kd.items I q1
    obtain ⟨its2, rv2, p2, _⟩ := Kd.items I q2
    obtain ⟨its3, rv3, p3, _⟩ := Kd.items I q3
    have hh : X.A.in1.handled = none := I.ok.hd hc
    have l1 := rv1.length
    have l2 := rv2.length
    have l3 := rv3.length
    have hi : i = min (min its1.toArray.size its2.toArray.size) its3.toArray.size := by simp; omega
    subst hi
    refine turn_stop (GoesN.zip3 (elts := elts) (x1 := kk) (pos := tpos) D (Kd.draws (prog := X.prog) (w := X.w) hh i1 k1 n1 its1.toArray) (Kd.draws (prog := X.prog) (w := X.w) hh i2 k2 n2 its2.toArray) (Kd.draws (prog := X.prog) (w := X.w) hh i3 k3 n3 its3.toArray)) I hf (by simp) ?_
    obtain ⟨hz, hTI, hTO, h1, h2, h3⟩ := st
    exact ⟨hz, hTI, hTO, ⟨h1, p1⟩, ⟨h2, p2⟩, h3, p3⟩
  self := fun A i s Q E st h => wpAny_pyIter_zip st.1 h
theorem zip3_get {l m k : List A} {i : Nat} {a : A} (h : (zip3 l m k)[i]? = some a) : ∃ x y z, l[i]? = some x ∧ m[i]? = some y ∧ k[i]? = some z ∧ a = .tup [x, y, z] := by
  unfold zip3 at h
  rw [List.getElem?_map] at h
  cases e : (l.zip (m.zip k))[i]? with
  | none => rw [e] at h; cases h
  | some p =>
    rw [e] at h; cases h
    obtain ⟨h1, h2⟩ := List.getElem?_zip_eq_some.mp e
    obtain ⟨h3, h4⟩ := List.getElem?_zip_eq_some.mp h2
    exact ⟨p.1, p.2.1, p.2.2, h1, h3, h4, rfl⟩
theorem walk_zip3 {N : Nm} {k1 k2 k3 : Kd} {Z c H l m n} {ok1 ok2 ok3 : Sto → Bool} (h1 : ∀ Z' c' st' H', Ext0 Z c Z' c' → RelH N Z' c' st' H' → ok1 st' = true → ∃ vs, k1.q N.K H' vs ∧ RpL N Z' l vs) (h2 : ∀ Z' c' st' H', Ext0 Z c Z' c' → RelH N Z' c' st' H' → ok2 st' = true → ∃ vs, k2.q N.K H' vs ∧ RpL N Z' m vs)
    (h3 : ∀ Z' c' st' H', Ext0 Z c Z' c' → RelH N Z' c' st' H' → ok3 st' = true → ∃ vs, k3.q N.K H' vs ∧ RpL N Z' n vs) :
    WalkOk N (J3 N.K k1 k2 k3) Z c H (zip3 l m n) (fun st' => ok1 st' && ok2 st' && ok3 st') := by
  intro i Z' c' st' H' x R ho
  simp only [Bool.and_eq_true] at ho
  obtain ⟨vs, q1, r1⟩ := h1 Z' c' st' H' x R ho.1.1
  obtain ⟨us, q2, r2⟩ := h2 Z' c' st' H' x R ho.1.2
  obtain ⟨ws, q3, r3⟩ := h3 Z' c' st' H' x R ho.2
  have l1 := r1.length
  have l2 := r2.length
  have l3 := r3.length
  refine ⟨fun a ea => ?_, fun e => ⟨vs, us, ws, q1, q2, q3, by rw [e]; simp [zip3]; omega⟩⟩
  obtain ⟨a1, a2, a3, e1, e2, e3, rfl⟩ := zip3_get ea
  obtain ⟨v1, f1, g1⟩ := r1.get e1
  obtain ⟨v2, f2, g2⟩ := r2.get e2
  obtain ⟨v3, f3, g3⟩ := r3.get e3
  refine ⟨⟨vs, us, ws, q1, q2, q3, ?_⟩, ?_⟩
  · have := (List.getElem?_eq_some_iff.mp f1).1
    have := (List.getElem?_eq_some_iff.mp f2).1
    have := (List.getElem?_eq_some_iff.mp f3).1
    omega
  · rintro v H2 ⟨T, v1', v2', v3', rfl, hT, rfl, k1', k2', k3'⟩
    have e1' := k1' vs q1
    have e2' := k2' us q2
    have e3' := k3' ws q3
    rw [f1] at e1'; cases e1'
    rw [f2] at e2'; cases e2'
    rw [f3] at e3'; cases e3'
    obtain ⟨x2, R2⟩ := ext_new (o := .tup [v1, v2, v3]) R hT
    exact ⟨_, x2, R2, .tup (SqT.of upd_same) (.cons (g1.mono x2.zz) (.cons (g2.mono x2.zz) (.cons (g3.mono x2.zz) .nil)))⟩

def Je (K : PySem.W.Frag) (k : Kd) : L2.It :=
  ⟨fun i H => ∃ xs, k.q K H xs ∧ i < xs.length,
   fun i H v H' => ∃ T x, v = .ref T ∧ H T = none ∧ H' = upd H T (.tup [.int i, x]) ∧ ∀ xs, k.q K H xs → xs[i]? = some x,
   fun i H => ∃ xs, k.q K H xs ∧ i = xs.length⟩
def tne (e it : Addr) (k : Kd) (i : Nat) (h : Heap) : Prop := (∃ old, IsEnum h e it ((i : Nat) : Int) old) ∧ k.st it i h
theorem tne_lt {e it : Addr} {k : Kd} {i : Nat} {h : Heap} (t : tne e it k i h) : ∀ b ∈ [e, it], ∃ o, h.get? b = some o ∧ ∀ v, o.data ≠ .cell v := by
  obtain ⟨⟨old, he⟩, h1⟩ := t
  intro c hc
  have e' : c = e ∨ c = it := by simpa using hc
  rcases e' with q | q
  · rw [q]; exact ⟨_, he, fun v q => nomatch q⟩
  · rw [q]; exact Kd.obj h1
theorem turn_enum' {P : Program} {w : World} {K : PySem.W.Frag} {elts : List Expr} {kk : Nat} {tpos : Pos} {k : Kd} {e it : Addr} (hei : e ≠ it) (hek : e ≠ k.ad) (n1 : k.ad ≠ it) :
    Turn P w K (.Tuple elts kk tpos) (Je K k) [e, it] e (tne e it k) where
  mem := by simp
  obj := fun i h st => tne_lt st
  keep := fun i h h' st kp => by
    obtain ⟨⟨old, he⟩, h1⟩ := st
    exact ⟨⟨old, kp e (by simp) _ he⟩, Kd.at h1 fun o q => kp it (by simp) o q⟩
  item := by
    intro X hP hw hK hc i pins s σ H E I hf st hg
    subst hP hw hK
    obtain ⟨xs, q1, hi⟩ := hg
    obtain ⟨its1, rv1, p1, _⟩ := Kd.items I q1
    have hh : X.A.in1.handled = none := I.ok.hd hc
    have l1 := rv1.length
    refine turn_new (tn := tne e it k) (GoesN.enumFrom (elts := elts) (x1 := kk) (pos := tpos) 0 (Kd.draws (prog := X.prog) (w := X.w) hh it k n1 its1.toArray) e hei (by simp; exact ⟨hei, hek⟩) (by simp)) I hf (by simp) (fun b hb => let ⟨o, e, _⟩ := tne_lt st b hb; Heap.lt_size e) (by simp; omega) ?_ ?_ ?_
    · obtain ⟨⟨old, he⟩, h1⟩ := st
      exact ⟨⟨old, by simpa using he⟩, h1, p1⟩
    · rintro v h' ⟨T, t, x, rfl, hT, hx, ht⟩
      obtain ⟨vx, ex, rx⟩ := Vals.getu rv1 (by simpa using hx)
      refine ⟨T, [.int (0 + (i : Int)) t, x], [.int i, vx], rfl, hT, ht, .cons ⟨t, by simp⟩ (.cons rx .nil), by show 2 ≤ sizeLine; decide, T, vx, rfl, I.hok.fresh hT, rfl, fun l hl => by rw [Kd.inj I hl q1]; exact ex⟩
    · rintro h' ⟨⟨old, he⟩, h1⟩
      exact ⟨⟨old, by simpa using he⟩, h1.1⟩
  done := by
    intro X hP hw hK hc i pins s σ H E I hf st hg
    subst hP hw hK
    obtain ⟨xs, q1, hi⟩ := hg
    obtain ⟨its1, rv1, p1, _⟩ := Kd.items I q1
    have hh : X.A.in1.handled = none := I.ok.hd hc
    have l1 := rv1.length
    have hi : i = its1.toArray.size := by simp; omega
    subst hi
    refine turn_stop (GoesN.enumFrom (elts := elts) (x1 := kk) (pos := tpos) 0 (Kd.draws (prog := X.prog) (w := X.w) hh it k n1 its1.toArray) e hei (by simp; exact ⟨hei, hek⟩) (by simp)) I hf (by simp) ?_
    obtain ⟨⟨old, he⟩, h1⟩ := st
    exact ⟨⟨old, by simpa using he⟩, h1, p1⟩
  self := fun A i s Q E st h => let ⟨⟨_, he⟩, _⟩ := st; wpAny_pyIter_enum he h
theorem enum_get : ∀ {l : List A} {j i : Nat} {a : A}, (enumA j l)[i]? = some a → ∃ x, l[i]? = some x ∧ a = .tup [.int (j + i : Nat), x]
  | [], _, _, _, h => by simp [enumA] at h
  | b :: l, j, 0, a, h => by simp [enumA] at h; subst h; exact ⟨b, rfl, by simp⟩
  | b :: l, j, i + 1, a, h => by
    obtain ⟨x, h1, h2⟩ := enum_get (l := l) (j := j + 1) (i := i) (by simpa [enumA] using h)
    exact ⟨x, by simpa using h1, by rw [h2]; congr 4; omega⟩
theorem enum_len : ∀ (l : List A) (j : Nat), (enumA j l).length = l.length
  | [], _ => rfl
  | _ :: l, j => by simp [enumA, enum_len l]
theorem walk_enum {N : Nm} {k : Kd} {Z c H l} {ok : Sto → Bool} (h : ∀ Z' c' st' H', Ext0 Z c Z' c' → RelH N Z' c' st' H' → ok st' = true → ∃ vs, k.q N.K H' vs ∧ RpL N Z' l vs) : WalkOk N (Je N.K k) Z c H (enumA 0 l) ok := by
  intro i Z' c' st' H' x R ho
  obtain ⟨vs, q1, r1⟩ := h Z' c' st' H' x R ho
  have l1 := r1.length
  refine ⟨fun a ea => ?_, fun e => ⟨vs, q1, by rw [e, enum_len]; omega⟩⟩
  obtain ⟨a1, e1, rfl⟩ := enum_get ea
  obtain ⟨v1, f1, g1⟩ := r1.get e1
  refine ⟨⟨vs, q1, (List.getElem?_eq_some_iff.mp f1).1⟩, ?_⟩
  rintro v H2 ⟨T, v1', rfl, hT, rfl, k1'⟩
  have e1' := k1' vs q1
  rw [f1] at e1'; cases e1'
  rw [Nat.zero_add]
  exact RpL.tup2 R (.int _) g1 hT

/-! ### a dict's keys, its items -/
def Jk (d : Addr) (es : Array DictEntry) (ep : Nat) : L2.It :=
  ⟨fun i H => H d = some (dO d es ep) ∧ i < es.size, fun i H v H' => H' = H ∧ ∃ en, es[i]? = some en ∧ RelV v en.key, fun i H => H d = some (dO d es ep) ∧ i = es.size⟩
theorem dO_raw {X : Cx} {pins σ H s} (I : Inv X pins σ H s) {d es ep} (h : H d = some (dO d es ep)) : s.heap.DictRaw d es ep := (I.hok d _ h).1
theorem turn_dkeys {P : Program} {w : World} {K : PySem.W.Frag} {tg : Expr} {d it : Addr} {es : Array DictEntry} {ep : Nat} (hne : d ≠ it) (hv : ∀ en ∈ es.toList, ∃ v, RelV v en.key) :
    Turn P w K tg (Jk d es ep) [it] it (fun i h => h.IsKeyIter it d i es.size ep) where
  mem := by simp
  obj := fun i h st b hb => by
    have e : b = it := by simpa using hb
    subst e
    obtain ⟨oi, e, c, dd⟩ := st
    exact ⟨oi, e, fun v z => by rw [dd] at z; cases z⟩
  keep := fun i h h' st k => st.at fun oi e => k it (by simp) oi e
  item := by
    intro X hP hw hK hc i pins s σ H E I hf st hg
    subst hP hw hK
    obtain ⟨hd, hi⟩ := hg
    obtain ⟨f0, f1, f2, f3, f4, f5⟩ := hf it (by simp)
    obtain ⟨v, rv⟩ := hv es[i] (by simp)
    refine wpAny_pyNext_keys_item_raw st (dO_raw I hd) hi fun h' st' sb => ?_
    have I1 : Inv X pins σ H { s with heap := h' } := I.turned (t' := s.toks) (fun b o hb e => (sb.2 b hb).trans e) f0 f1 f3 f4 f5
    obtain ⟨o, e, c, d'⟩ := id st'
    exact ⟨es[i].key, rfl, go_of (s := { s with heap := h' }) e c d' (by decide) ⟨v, H, I1, rv, ⟨rfl, es[i], Array.getElem?_eq_getElem hi, rv⟩, st', fun b hb => (hf b hb).1⟩⟩
  done := by
    intro X hP hw hK hc i pins s σ H E I hf st hg
    subst hP hw hK
    obtain ⟨hd, hi⟩ := hg
    obtain ⟨f0, f1, f2, f3, f4, f5⟩ := hf it (by simp)
    exact wpAny_pyNext_keys_end_raw (I.ok.hd hc) st (dO_raw I hd) (by omega) fun h' eb => ⟨rfl, I.turned (t' := s.toks) (fun b o hb e => eb b o hb e) f0 f1 f3 f4 f5⟩
  self := fun A i s Q E st h => wpAny_pyIter_keyiter st h
theorem RpD.length {N : Nm} {Z : Hp} : ∀ {l es}, RpD N Z l es → l.length = es.length
  | _, _, .nil => rfl
  | _, _, .cons _ _ _ _ _ _ r => by simp [RpD.length r]
theorem RpD.get {N : Nm} {Z : Hp} : ∀ {l : List (A × A)} {es : List DictEntry} {i : Nat} {p : A × A}, RpD N Z l es → l[i]? = some p → ∃ en kv av, es[i]? = some en ∧ Rp N Z p.1 kv ∧ RelV kv en.key ∧ Rp N Z p.2 av ∧ RelV av en.val
  | _, _, _, _, .nil, e => by simp at e
  | _, _, 0, _, .cons a b _ _ c d r, e => by simp at e; subst e; exact ⟨_, _, _, rfl, a, b, c, d⟩
  | _, _, i + 1, _, .cons _ _ _ _ _ _ r, e => by
    obtain ⟨en, kv, av, h1, h2⟩ := RpD.get (i := i) r (by simpa using e)
    exact ⟨en, kv, av, by simpa using h1, h2⟩
theorem RpD.val {N : Nm} {Z : Hp} : ∀ {l es}, RpD N Z l es → ∀ en ∈ es, (∃ v, RelV v en.key) ∧ ∃ v, RelV v en.val
  | _, _, .nil, en, h => by cases h
  | _, _, .cons a b _ _ c d r, en, h => by
    rcases List.mem_cons.mp h with rfl | h
    · exact ⟨⟨_, b⟩, _, d⟩
    · exact RpD.val r en h
theorem walk_dkeys {N : Nm} {d es ep Z c H} {l : List (A × A)} {ok : Sto → Bool} (hz : Z d = some (dO d es ep)) (r : RpD N Z l es.toList) : WalkOk N (Jk d es ep) Z c H (l.map (·.1)) ok := by
  intro i Z' c' st' H' x R ho
  have hl := r.length
  have hd : H' d = some (dO d es ep) := R.sub _ _ (x.zz _ _ hz)
  refine ⟨fun a ea => ?_, fun e => ⟨hd, by simp at e hl; omega⟩⟩
  rw [List.getElem?_map] at ea
  cases e : l[i]? with
  | none => rw [e] at ea; cases ea
  | some p =>
    rw [e] at ea; cases ea
    obtain ⟨en, kv, av, h1, h2, h3, h4, h5⟩ := r.get e
    have hi : i < es.size := by have := (List.getElem?_eq_some_iff.mp h1).1; simpa using this
    refine ⟨⟨hd, hi⟩, ?_⟩
    rintro v H2 ⟨rfl, en', e', rv⟩
    have : en' = en := by
      have h1' : es[i]? = some en := by simpa using h1
      rw [e'] at h1'; exact Option.some.inj h1'
    subst this
    have : v = kv := RelV.inj rv h3
    subst this
    exact ⟨Z', Ext.refl .., R, h2.mono x.zz⟩
def Jm (d : Addr) (es : Array DictEntry) (ep : Nat) : L2.It :=
  ⟨fun i H => H d = some (dO d es ep) ∧ i < es.size, fun i H v H' => ∃ T k u en, v = .ref T ∧ H T = none ∧ H' = upd H T (.tup [k, u]) ∧ es[i]? = some en ∧ RelV k en.key ∧ RelV u en.val, fun i H => H d = some (dO d es ep) ∧ i = es.size⟩
theorem turn_ditems {P : Program} {w : World} {K : PySem.W.Frag} {elts : List Expr} {kk : Nat} {tpos : Pos} {d it : Addr} {es : Array DictEntry} {ep : Nat} (hne : d ≠ it) (hv : ∀ en ∈ es.toList, (∃ v, RelV v en.key) ∧ ∃ v, RelV v en.val) :
    Turn P w K (.Tuple elts kk tpos) (Jm d es ep) [it] it (fun i h => ∃ ok ov, IsItemIter h it d i es.size ep ok ov) where
  mem := by simp
  obj := fun i h st b hb => by
    have e : b = it := by simpa using hb
    subst e
    obtain ⟨ok, ov, e⟩ := st
    exact ⟨_, e, fun v z => nomatch z⟩
  keep := fun i h h' st k => let ⟨ok, ov, e⟩ := st; ⟨ok, ov, k it (by simp) _ e⟩
  item := by
    intro X hP hw hK hc i pins s σ H E I hf st hg
    subst hP hw hK
    obtain ⟨hd, hi⟩ := hg
    have hh : X.A.handled = none := I.ok.hd hc
    obtain ⟨⟨k, rk⟩, u, ru⟩ := hv es[i] (by simp)
    refine turn_new (tn := fun i h => ∃ ok ov, IsItemIter h it d i es.size ep ok ov) (GoesN.rawItems (prog := X.prog) (w := X.w) (elts := elts) (x1 := kk) (pos := tpos) hh it d hne es ep) I hf (by simp) (fun b hb => ?_) hi ⟨st, dO_raw I hd⟩ ?_ fun h' st' => st'.1
    · have e : b = it := by simpa using hb
      subst e
      obtain ⟨ok, ov, e⟩ := st
      exact Heap.lt_size e
    · rintro v h' ⟨T, _, rfl, hT, ht⟩
      exact ⟨T, [es[i].key, es[i].val], [k, u], rfl, hT, ht, .cons rk (.cons ru .nil), by show 2 ≤ sizeLine; decide, T, k, u, es[i], rfl, I.hok.fresh hT, rfl, Array.getElem?_eq_getElem hi, rk, ru⟩
  done := by
    intro X hP hw hK hc i pins s σ H E I hf st hg
    subst hP hw hK
    obtain ⟨hd, hi⟩ := hg
    have hh : X.A.handled = none := I.ok.hd hc
    subst hi
    exact turn_stop (GoesN.rawItems (prog := X.prog) (w := X.w) (elts := elts) (x1 := kk) (pos := tpos) hh it d hne es ep) I hf (by simp) ⟨st, dO_raw I hd⟩
  self := fun A i s Q E st h => let ⟨_, _, e⟩ := st; PySem.W.kcp_self e h
theorem walk_ditems {N : Nm} {d es ep Z c H} {l : List (A × A)} {ok : Sto → Bool} (hz : Z d = some (dO d es ep)) (r : RpD N Z l es.toList) : WalkOk N (Jm d es ep) Z c H (l.map fun p => .tup [p.1, p.2]) ok := by
  intro i Z' c' st' H' x R ho
  have hl := r.length
  have hd : H' d = some (dO d es ep) := R.sub _ _ (x.zz _ _ hz)
  refine ⟨fun a ea => ?_, fun e => ⟨hd, by simp at e hl; omega⟩⟩
  rw [List.getElem?_map] at ea
  cases e : l[i]? with
  | none => rw [e] at ea; cases ea
  | some p =>
    rw [e] at ea; cases ea
    obtain ⟨en, kv, av, h1, h2, h3, h4, h5⟩ := r.get e
    have hi : i < es.size := by have := (List.getElem?_eq_some_iff.mp h1).1; simpa using this
    refine ⟨⟨hd, hi⟩, ?_⟩
    rintro v H2 ⟨T, k, u, en', rfl, hT, rfl, e', rk, ru⟩
    have : en' = en := by
      have h1' : es[i]? = some en := by simpa using h1
      rw [e'] at h1'; exact Option.some.inj h1'
    subst this
    have : k = kv := RelV.inj rk h3
    subst this
    have : u = av := RelV.inj ru h5
    subst this
    exact RpL.tup2 R (h2.mono x.zz) (h4.mono x.zz) hT

/-! ### the walks -/
section
variable {N : Nm} {O : Orc} {X : Cx}
theorem itms_ok {o : Option (List A × (Sto → Bool))} {st} {Y : WX} {σ Z c H} {Q : List A × (Sto → Bool) → Hp → List Addr → Hp → Prop} (h : Outc N Y σ Z c H (itms o st) Q) (R : RelH N Z c st H) : ∃ p, o = some p ∧ p.1.length ≤ Sz ∧ Q p Z c H := by
  unfold itms at h
  cases o with
  | none => exact h.elim
  | some p =>
    by_cases hp : p.1.length ≤ Sz
    · simp only [if_pos hp] at h; exact ⟨p, rfl, hp, h.okk R⟩
    · simp only [if_neg hp] at h; exact h.elim
theorem sndi_seq (F : Fit N X) {tg e : Expr} {x : Ex} (he : SndE N O X e x) : SndI N O X tg e (itSeq x) := by
  intro Y tk env st σ Z c H R E T h pins s I
  refine thn (he Y tk env st σ Z c H R E (fun v H1 => ∃ w st1 Z1 c1, RelH N Z1 c1 st1 H1 ∧ RpW N Z1 c1 w v ∧ Outc N Y σ Z1 c1 H1 (itms (src st1 w) st1) fun p Z' c' H' => ∀ J, WalkOk N J Z' c' H' p.1 p.2 → p.1.length ≤ Sz → T J H')
    (Outc.mono h.bind (Ext.refl ..) fun w Z1 c1 H1 _ ⟨st1, R1, x1, h1⟩ v rv => ⟨w, st1, Z1, c1, R1, rv, h1⟩) pins s I) ?_
  rintro v s1 ⟨xv, H1, I1, rx, w, st1, Z1, c1, R1, rv, q⟩
  obtain ⟨⟨l, ok⟩, e, hz, q⟩ := itms_ok q R1
  have seq : ∀ (e : srcq st1 w = some (l, ok)), wpAny (model X.prog X.w) X.A (pyIter v) (PIE X pins σ tg T) X.xe s1 := fun e => by
    obtain ⟨k, rfl, ⟨vs, q1, _⟩, hk⟩ := srcq_ok R1 rv e
    cases rx
    refine Kd.iter I1 (by rw [F.K]; exact q1) ?_
    rw [F.K]
    exact q _ (Kd.walk hk) hz
  cases w with
  | v a =>
    cases a with
    | str s' =>
      cases e
      cases rv
      obtain ⟨t, rfl⟩ := rx
      exact it_str I1 (q _ walk_str hz)
    | dct es' =>
      cases e
      cases rv with
      | @dct l p es ep h1 h2 h3 h4 =>
        cases rx
        have hr := dO_raw I1 (R1.sub _ _ h1)
        have hlt : p < s1.heap.objs.size := by obtain ⟨o, ho, _⟩ := hr; exact Heap.lt_size ho
        refine wpAny_pyIter_dict_raw h3 hr (pi_one (tk := s1.toks) I1 _ (turn_dkeys (es := es) (ep := ep) (Nat.ne_of_lt hlt) fun en hen => (h2.val en hen).1) ⟨_, Heap.get?_push_size _ rfl, rfl, rfl⟩ (q _ (walk_dkeys h1 h2) hz))
    | _ => exact seq e
  | cel n => exact seq e
  | lam _ _ => exact rv.elim
theorem sndi_items (Ft : Fit N X) {elts : List Expr} {kk : Nat} {tpos apos cpos : Pos} {e : Expr} {x : Ex} (hbase : attributeBase e "items" X.env (eval e X.env) = eval e X.env) (hline : (apos.endLine == cpos.line) = true) (he : SndE N O X e x) :
    SndI N O X (.Tuple elts kk tpos) (.Call (.Attribute e "items" apos) [] [] cpos) (itItems x) := by
  intro Y tk env st σ Z c H R E T h pins s I
  refine wpAny_Call_method (T := "dict") (id := "dict.items") hbase rfl hline F.plainAttrs_dict F.slot_dict_items F.type_dict_items (thn (he Y tk env st σ Z c H R E (fun v H1 => ∃ w st1 Z1 c1, RelH N Z1 c1 st1 H1 ∧ RpW N Z1 c1 w v ∧ Outc N Y σ Z1 c1 H1 (match w with | .v (.dct l) => itms (some (l.map fun p => A.tup [p.1, p.2], fun _ => true)) st1 | _ => .bad) fun p Z' c' H' => ∀ J, WalkOk N J Z' c' H' p.1 p.2 → p.1.length ≤ Sz → T J H')
    (Outc.mono h.bind (Ext.refl ..) fun w Z1 c1 H1 _ ⟨st1, R1, x1, h1⟩ v rv => ⟨w, st1, Z1, c1, R1, rv, h1⟩) pins s I) ?_)
  rintro v s1 ⟨xv, H1, I1, rx, w, st1, Z1, c1, R1, rv, q⟩
  cases w with
  | v a =>
    cases a with
    | dct l' =>
      obtain ⟨⟨l, ok⟩, e, hz, q⟩ := itms_ok q R1
      cases e
      cases rv with
      | @dct l p es ep h1 h2 h3 h4 =>
        cases rx
        have hr := dO_raw I1 (R1.sub _ _ h1)
        have hlt : p < s1.heap.objs.size := by obtain ⟨o, ho, _⟩ := hr; exact Heap.lt_size ho
        obtain ⟨o, ho, hx, hd⟩ := id hr
        refine ⟨hr.typeIs, fun a e => by cases e; exact ⟨o, ho, hx.2.1⟩, ?_⟩
        have I2 : Inv X pins σ H1 { s1 with heap := s1.heap.push { cls := .type "dict_items", data := .fields #[.ref p] } } := I1.kept (t' := s1.toks) fun b ob q => Heap.get?_push_of_some _ q
        have fin : wpAny (model X.prog X.w) X.A (pyIter (.ref s1.heap.objs.size)) (PIE X pins σ (.Tuple elts kk tpos) T) X.xe { s1 with heap := s1.heap.push { cls := .type "dict_items", data := .fields #[.ref p] } } := by
          refine wpAny_pyIter_items_raw (d := p) ⟨_, Heap.get?_push_size _ rfl, rfl, rfl⟩ (hr.at fun o e => Heap.get?_push_of_some _ e) (pi_one (tk := s1.toks) I2 _ (turn_ditems (es := es) (ep := ep) ?_ fun en hen => h2.val en hen) ⟨.none, .none, ?_⟩ (q _ (walk_ditems h1 h2) hz))
          · rw [Heap.size_push]; exact Nat.ne_of_lt (Nat.lt_succ_of_lt hlt)
          · exact Heap.get?_push_size _ rfl
        show wpAny _ _ (callWith cpos (.builtin "dict.items") [.ref p] [] []) _ X.xe s1
        exact method_meetsIn F.slot_dict_items F.entry_dict_items rfl (PySem.evalArgs_none ⟨rfl, hr.typeIs, F.args_dict_items_1 _, _, meets_dict_items_raw p h3, ⟨es, ep, hr⟩, fin⟩)
    | _ => exact q.elim
  | cel n => exact q.elim
  | lam _ _ => exact q.elim
end
end PV
end
section
set_option linter.all false
set_option Elab.async false
set_option maxRecDepth 100000
set_option maxHeartbeats 4000000
/-! PV6: range, zip, enumerate; comprehensions stored to names; calls of builtins. -/
namespace PV
open PySem PySem.Spec PyProof.Rows L2
section
variable {N : Nm} {O : Orc} {X : Cx}
/-- the arguments one behind another -/
theorem args1 {a : Expr} {x : Ex} (hs : isStar a = false) (ha : SndE N O X a x) {Y : WX} (tk : Takes X Y) {env st σ Z c H} (R : RelH N Z c st H) (E : RelE N Z c env σ) {β : Type} {g : PV.W → Sto → Res β} {Q : β → Hp → List Addr → Hp → Prop} {T : V → Hp → Prop}
    (h : Outc N Y σ Z c H ((x O env st).bind g) Q) (k : ∀ w st1 Z1 c1 H1 v, Ext Z c H Z1 c1 H1 → RelH N Z1 c1 st1 H1 → RpW N Z1 c1 w v → Outc N Y σ Z1 c1 H1 (g w st1) Q → T v H1) : WA X [a] σ H fun vs H1 => ∃ v, vs = [v] ∧ T v H1 :=
  WA.of (pa_cons (WE.pe X a) pa_nil (star_no hs _ _)) (ha Y tk env st σ Z c H R E _ (Outc.mono h.bind (Ext.refl ..) fun w Z1 c1 H1 _ ⟨st1, R1, x1, h1⟩ v rv => ⟨v, rfl, k w st1 Z1 c1 H1 v x1 R1 rv h1⟩))
theorem args2 {a b : Expr} {x y : Ex} (hs : isStar a = false) (hs2 : isStar b = false) (ha : SndE N O X a x) (hb : SndE N O X b y) {Y : WX} (tk : Takes X Y) {env st σ Z c H} (R : RelH N Z c st H) (E : RelE N Z c env σ) {β : Type} {g : PV.W → PV.W → Sto → Res β} {Q : β → Hp → List Addr → Hp → Prop} {T : V → V → Hp → Prop}
    (h : Outc N Y σ Z c H ((x O env st).bind fun w st1 => (y O env st1).bind fun u st2 => g w u st2) Q) (k : ∀ w u st2 Z2 c2 H2 v v', Ext Z c H Z2 c2 H2 → RelH N Z2 c2 st2 H2 → RpW N Z2 c2 w v → RpW N Z2 c2 u v' → Outc N Y σ Z2 c2 H2 (g w u st2) Q → T v v' H2) : WA X [a, b] σ H fun vs H1 => ∃ v v', vs = [v, v'] ∧ T v v' H1 :=
  WA.of (pa_cons (WE.pe X a) (pa_cons (WE.pe X b) pa_nil (star_no hs2 _ _)) (star_no hs _ _)) (ha Y tk env st σ Z c H R E _ (Outc.mono h.bind (Ext.refl ..) fun w Z1 c1 H1 _ ⟨st1, R1, x1, h1⟩ v rv =>
    hb Y tk env st1 σ Z1 c1 H1 R1 (E.mono x1) _ (Outc.mono h1.bind (Ext.refl ..) fun u Z2 c2 H2 _ ⟨st2, R2, x2, h2⟩ v' rv' => ⟨v, v', rfl, k w u st2 Z2 c2 H2 v v' (x1.trans x2) R2 (rv.mono x2) rv' h2⟩)))
theorem args3 {a b d : Expr} {x y z : Ex} (hs : isStar a = false) (hs2 : isStar b = false) (hs3 : isStar d = false) (ha : SndE N O X a x) (hb : SndE N O X b y) (hd : SndE N O X d z) {Y : WX} (tk : Takes X Y) {env st σ Z c H} (R : RelH N Z c st H) (E : RelE N Z c env σ) {β : Type} {g : PV.W → PV.W → PV.W → Sto → Res β} {Q : β → Hp → List Addr → Hp → Prop} {T : V → V → V → Hp → Prop}
    (h : Outc N Y σ Z c H ((x O env st).bind fun w st1 => (y O env st1).bind fun u st2 => (z O env st2).bind fun t st3 => g w u t st3) Q) (k : ∀ w u t st3 Z3 c3 H3 v v' v'', Ext Z c H Z3 c3 H3 → RelH N Z3 c3 st3 H3 → RpW N Z3 c3 w v → RpW N Z3 c3 u v' → RpW N Z3 c3 t v'' → Outc N Y σ Z3 c3 H3 (g w u t st3) Q → T v v' v'' H3) : WA X [a, b, d] σ H fun vs H1 => ∃ v v' v'', vs = [v, v', v''] ∧ T v v' v'' H1 :=
  WA.of (pa_cons (WE.pe X a) (pa_cons (WE.pe X b) (pa_cons (WE.pe X d) pa_nil (star_no hs3 _ _)) (star_no hs2 _ _)) (star_no hs _ _)) (ha Y tk env st σ Z c H R E _ (Outc.mono h.bind (Ext.refl ..) fun w Z1 c1 H1 _ ⟨st1, R1, x1, h1⟩ v rv =>
    hb Y tk env st1 σ Z1 c1 H1 R1 (E.mono x1) _ (Outc.mono h1.bind (Ext.refl ..) fun u Z2 c2 H2 _ ⟨st2, R2, x2, h2⟩ v' rv' =>
      hd Y tk env st2 σ Z2 c2 H2 R2 ((E.mono x1).mono x2) _ (Outc.mono h2.bind (Ext.refl ..) fun t Z3 c3 H3 _ ⟨st3, R3, x3, h3⟩ v'' rv'' => ⟨v, v', v'', rfl, k w u t st3 Z3 c3 H3 v v' v'' ((x1.trans x2).trans x3) R3 ((rv.mono x2).mono x3) (rv'.mono x3) rv'' h3⟩))))
theorem int_vw {Z c st H} (R : RelH N Z c st H) {w : PV.W} {v} {j : Int} (r : RpW N Z c w v) (h : vw st w = some (.int j)) : v = .int j := by
  have q : Rp N Z (.int j) v := vw_ok R r h
  cases q; rfl
abbrev ItPost (N : Nm) (T : L2.It → Hp → Prop) : List A × (Sto → Bool) → Hp → List Addr → Hp → Prop := fun p Z' c' H' => ∀ J, WalkOk N J Z' c' H' p.1 p.2 → p.1.length ≤ Sz → T J H'
theorem sndi_rng1 {tg a : Expr} {x : Ex} {p pos : Pos} (hg : Gl X "range") (hm : X.mg "range" = none) (hs : isStar a = false) (ha : SndE N O X a x) : SndI N O X tg (.Call (.Name "range" p) [a] [] pos) (itRng1 x) := by
  intro Y tk env st σ Z c H R E T h
  refine fun pins s I => (pi_range1 hg hm (WA.pa X [a]) (star_no hs _ _)).run pins s σ H T I ?_
  have k := args1 hs ha tk R E h (T := fun v H1 => ∃ j : Int, v = .int j ∧ -(2 ^ 62) ≤ j ∧ j < 2 ^ 62 ∧ T (Itr 0 j.toNat) H1) fun w st1 Z1 c1 H1 v x1 R1 rv h1 => by
    obtain ⟨⟨m, ok⟩, e, hz, q⟩ := itms_ok h1 R1
    unfold rng1 at e
    split at e
    · rename_i j hv
      split at e
      · rename_i hs
        cases e
        unfold small at hs
        simp only [Bool.and_eq_true, decide_eq_true_eq] at hs
        exact ⟨j, int_vw R1 rv hv, hs.1, hs.2, q _ walk_rng hz⟩
      · cases e
    · cases e
  exact WA.of (WA.pa X [a]) (fun pos pins s I => thn (k pos pins s I) fun us s1 ⟨vs, H1, I1, r1, v, e, j, e2, q⟩ => ⟨vs, H1, I1, r1, j, by rw [e, e2], q⟩)
theorem sndi_rng2 {tg a b : Expr} {x y : Ex} {p pos : Pos} (hg : Gl X "range") (hm : X.mg "range" = none) (hs : isStar a = false) (hs2 : isStar b = false) (ha : SndE N O X a x) (hb : SndE N O X b y) : SndI N O X tg (.Call (.Name "range" p) [a, b] [] pos) (itRng2 x y) := by
  intro Y tk env st σ Z c H R E T h
  refine fun pins s I => (pi_range2 hg hm (WA.pa X [a, b]) (by rw [star_no hs, star_no hs2]; rfl) (star_no hs2 _ _)).run pins s σ H T I ?_
  have k := args2 hs hs2 ha hb tk R E h (T := fun v v' H1 => ∃ i j : Int, v = .int i ∧ v' = .int j ∧ (-(2 ^ 62) ≤ i ∧ i < 2 ^ 62 ∧ -(2 ^ 62) ≤ j ∧ j < 2 ^ 62) ∧ T (Itr i (j - i).toNat) H1) fun w u st1 Z1 c1 H1 v v' x1 R1 rv rv' h1 => by
    obtain ⟨⟨m, ok⟩, e, hz, q⟩ := itms_ok h1 R1
    unfold rng2 at e
    split at e
    · rename_i i j hv hu
      split at e
      · rename_i hs
        cases e
        unfold small at hs
        simp only [Bool.and_eq_true, decide_eq_true_eq] at hs
        exact ⟨i, j, int_vw R1 rv hv, int_vw R1 rv' hu, ⟨hs.1.1, hs.1.2, hs.2.1, hs.2.2⟩, q _ walk_rng hz⟩
      · cases e
    · cases e
  exact WA.of (WA.pa X [a, b]) (fun pos pins s I => thn (k pos pins s I) fun us s1 ⟨vs, H1, I1, r1, v, v', e, i, j, e2, e3, q⟩ => ⟨vs, H1, I1, r1, i, j, by rw [e, e2, e3], q⟩)
theorem apart_new {I0 n : Nat} {a : Addr} (h : a < n) : a ≠ n := Nat.ne_of_lt h
theorem sndi_zip2 (F : Fit N X) {elts : List Expr} {kk : Nat} {tpos p pos : Pos} {a b : Expr} {x y : Ex} (hg : Gl X "zip") (hm : X.mg "zip" = none) (hs : isStar a = false) (hs2 : isStar b = false) (ha : SndE N O X a x) (hb : SndE N O X b y) :
    SndI N O X (.Tuple elts kk tpos) (.Call (.Name "zip" p) [a, b] [] pos) (itZip2 x y) := by
  intro Y tk env st σ Z c H R E T h pins s I
  have k := args2 hs hs2 ha hb tk R E h (T := fun v v' H1 => ∃ k1 k2 : Kd, v = .ref k1.ad ∧ v' = .ref k2.ad ∧ (∃ vs, k1.q N.K H1 vs) ∧ (∃ vs, k2.q N.K H1 vs) ∧ T (J2 N.K k1 k2) H1) fun w u st1 Z1 c1 H1 v v' x1 R1 rv rv' h1 => by
    obtain ⟨⟨m, ok⟩, e, hz, q⟩ := itms_ok h1 R1
    unfold zips2 at e
    split at e
    · rename_i l1 l2 e1 e2
      cases e
      obtain ⟨k1, rfl, ⟨vs, q1, _⟩, g1⟩ := srcq_ok R1 rv e1
      obtain ⟨k2, rfl, ⟨us, q2, _⟩, g2⟩ := srcq_ok R1 rv' e2
      exact ⟨k1, k2, rfl, rfl, ⟨vs, q1⟩, ⟨us, q2⟩, q _ (walk_zip2 g1 g2) hz⟩
    · cases e
  refine Call_ (ld_blt I hg hm PyProof.Rows.boot_zip (PyProof.Rows.callWith_type1 (thn (k pos pins s I) fun us s1 ⟨vs, H1, I1, r1, v, v', e, k1, k2, e1, e2, ⟨xs, q1⟩, ⟨ys, q2⟩, q⟩ => ?_) (star_no hs _ _) (no_star _ _ _ (by simp [hs2]))))
  subst e e1 e2
  cases r1 with
  | cons r rr =>
    cases rr with
    | cons r' rr =>
      cases rr
      cases r
      cases r'
      rw [← F.K] at q1 q2
      obtain ⟨its1, rv1, p1, _⟩ := Kd.items I1 q1
      obtain ⟨its2, rv2, p2, _⟩ := Kd.items I1 q2
      have la := Kd.lt p1
      have lb := Kd.lt p2
      refine zip_begins2 (k1.begins its1.toArray) (k2.begins its2.toArray) p1 p2 fun h' hz hTI hTO h1 h2 hsz hk => wpAny_pyIter_zip hz ?_
      have I2 : Inv X pins σ H1 { s1 with heap := h' } := I1.kept (t' := s1.toks) hk
      refine ⟨s1.heap.objs.size + 4, [s1.heap.objs.size + 4, s1.heap.objs.size + 2, s1.heap.objs.size + 3, s1.heap.objs.size, s1.heap.objs.size + 1], _, _, H1, rfl, I2,
        turn_zip2 (elts := elts) (kk := kk) (tpos := tpos) (k1 := k1) (k2 := k2) (zip_sep2 (N := s1.heap.objs.size) (fp1 := [k1.ad]) (fp2 := [k2.ad]) (by simpa using la) (by simpa using lb)) (Nat.ne_of_lt la) (Nat.ne_of_lt (Nat.lt_succ_of_lt lb)), ⟨hz, hTI, ⟨_, _, hTO⟩, Kd.st0 h1, Kd.st0 h2⟩, fun c hcm => ?_, by rw [F.K]; exact q⟩
      have hle : s1.heap.objs.size ≤ c := by
        have e' : c = s1.heap.objs.size + 4 ∨ c = s1.heap.objs.size + 2 ∨ c = s1.heap.objs.size + 3 ∨ c = s1.heap.objs.size ∨ c = s1.heap.objs.size + 1 := by simpa using hcm
        rcases e' with z | z | z | z | z <;> rw [z] <;> first | exact Nat.le_add_right _ _ | exact Nat.le_refl _
      exact I1.fpOk hle (I1.hok.fresh hle)
theorem sndi_zip3 (F : Fit N X) {elts : List Expr} {kk : Nat} {tpos p pos : Pos} {a b d : Expr} {x y z : Ex} (hg : Gl X "zip") (hm : X.mg "zip" = none) (hs : isStar a = false) (hs2 : isStar b = false) (hs3 : isStar d = false) (ha : SndE N O X a x) (hb : SndE N O X b y) (hd : SndE N O X d z) :
    SndI N O X (.Tuple elts kk tpos) (.Call (.Name "zip" p) [a, b, d] [] pos) (itZip3 x y z) := by
  intro Y tk env st σ Z c H R E T h pins s I
  have k := args3 hs hs2 hs3 ha hb hd tk R E h (T := fun v v' v'' H1 => ∃ k1 k2 k3 : Kd, v = .ref k1.ad ∧ v' = .ref k2.ad ∧ v'' = .ref k3.ad ∧ (∃ vs, k1.q N.K H1 vs) ∧ (∃ vs, k2.q N.K H1 vs) ∧ (∃ vs, k3.q N.K H1 vs) ∧ T (J3 N.K k1 k2 k3) H1) fun w u t st1 Z1 c1 H1 v v' v'' x1 R1 rv rv' rv'' h1 => by
    obtain ⟨⟨m, ok⟩, e, hz, q⟩ := itms_ok h1 R1
    unfold zips3 at e
    split at e
    · rename_i l1 l2 l3 e1 e2 e3
      cases e
      obtain ⟨k1, rfl, ⟨vs, q1, _⟩, g1⟩ := srcq_ok R1 rv e1
      obtain ⟨k2, rfl, ⟨us, q2, _⟩, g2⟩ := srcq_ok R1 rv' e2
      obtain ⟨k3, rfl, ⟨ws, q3, _⟩, g3⟩ := srcq_ok R1 rv'' e3
      exact ⟨k1, k2, k3, rfl, rfl, rfl, ⟨vs, q1⟩, ⟨us, q2⟩, ⟨ws, q3⟩, q _ (walk_zip3 g1 g2 g3) hz⟩
    · cases e
  refine Call_ (ld_blt I hg hm PyProof.Rows.boot_zip (PyProof.Rows.callWith_type1 (thn (k pos pins s I) fun us s1 ⟨vs, H1, I1, r1, v, v', v'', e, k1, k2, k3, e1, e2, e3, ⟨xs, q1⟩, ⟨ys, q2⟩, ⟨zs, q3⟩, q⟩ => ?_) (star_no hs _ _) (no_star _ _ _ (by simp [hs2, hs3]))))
  subst e e1 e2 e3
  cases r1 with
  | cons r rr =>
    cases rr with
    | cons r' rr =>
      cases rr with
      | cons r'' rr =>
        cases rr
        cases r
        cases r'
        cases r''
        rw [← F.K] at q1 q2 q3
        obtain ⟨its1, rv1, p1, _⟩ := Kd.items I1 q1
        obtain ⟨its2, rv2, p2, _⟩ := Kd.items I1 q2
        obtain ⟨its3, rv3, p3, _⟩ := Kd.items I1 q3
        have la := Kd.lt p1
        have lb := Kd.lt p2
        have lc := Kd.lt p3
        refine zip_begins3 (k1.begins its1.toArray) (k2.begins its2.toArray) (k3.begins its3.toArray) p1 p2 p3 fun h' hz hTI hTO h1 h2 h3 hsz hk => wpAny_pyIter_zip hz ?_
        have I2 : Inv X pins σ H1 { s1 with heap := h' } := I1.kept (t' := s1.toks) hk
        refine ⟨s1.heap.objs.size + 5, [s1.heap.objs.size + 5, s1.heap.objs.size + 3, s1.heap.objs.size + 4, s1.heap.objs.size, s1.heap.objs.size + 1, s1.heap.objs.size + 2], _, _, H1, rfl, I2,
          turn_zip3 (elts := elts) (kk := kk) (tpos := tpos) (k1 := k1) (k2 := k2) (k3 := k3) (zip_sep3 (N := s1.heap.objs.size) (fp1 := [k1.ad]) (fp2 := [k2.ad]) (fp3 := [k3.ad]) (by simpa using la) (by simpa using lb) (by simpa using lc)) (Nat.ne_of_lt la) (Nat.ne_of_lt (Nat.lt_succ_of_lt lb)) (Nat.ne_of_lt (Nat.lt_succ_of_lt (Nat.lt_succ_of_lt lc))), ⟨hz, hTI, ⟨_, _, _, hTO⟩, Kd.st0 h1, Kd.st0 h2, Kd.st0 h3⟩, fun c hcm => ?_, by rw [F.K]; exact q⟩
        have hle : s1.heap.objs.size ≤ c := by
          have e' : c = s1.heap.objs.size + 5 ∨ c = s1.heap.objs.size + 3 ∨ c = s1.heap.objs.size + 4 ∨ c = s1.heap.objs.size ∨ c = s1.heap.objs.size + 1 ∨ c = s1.heap.objs.size + 2 := by simpa using hcm
          rcases e' with z | z | z | z | z | z <;> rw [z] <;> first | exact Nat.le_add_right _ _ | exact Nat.le_refl _
        exact I1.fpOk hle (I1.hok.fresh hle)
set_option maxHeartbeats 1000000 in
theorem meets_enumT (l : Addr) (items : Array Value) (n : Nat) (dct : Option Addr) (sl : Array (Option Value)) :
    Meets (Builtin.«enumerate.__new__» ⟨[.type "enumerate", .ref l], []⟩) (fun _ R s => s.heap.get? l = some { cls := .type "tuple", dict := dct, data := .seq items n, slots := sl } ∧
      R (.ok (.ret (.ref (s.heap.push (Kd.ob (.tup l))).objs.size)))
        { s with heap := (s.heap.push (Kd.ob (.tup l))).push { cls := .type "enumerate", data := .fields #[.none, .bool false, .ref s.heap.objs.size, rawInt 0, .none, .none] } }) :=
  .of_wp fun prog w A R s h => by
    obtain ⟨hp, g, d, tk, os⟩ := s
    obtain ⟨hl, h⟩ := h
    have hsub := PySem.sub_enumerate
    have hT : Heap.IsTuple (Shared.heap ⟨hp, g, d, tk, os⟩) l items := ⟨_, hl, rfl, n, rfl⟩
    wp_walk using wpAny_loadPart' hl
    refine wpAny_stack_any fun stk => wpAny_pure ?_
    split
    · rename_i c _ _ _ _ _
      cases (c == Value.type "enumerate")
      · wp_walk using wpAny_loadPart' hl, wpAny_pyIter_tuple hT
        exact ⟨_, rfl, h⟩
      · wp_walk using wpAny_loadPart' hl, wpAny_pyIter_tuple hT
        exact ⟨_, rfl, h⟩
    · wp_walk using wpAny_loadPart' hl, wpAny_pyIter_tuple hT
      exact ⟨_, rfl, h⟩
theorem call_enumerate_tup {prog : Program} {w : World} {A : Around} {E : Value → Shared → Prop} {s : Shared} {l : Addr} {items : Array Value} {Q : Value → Shared → Prop} (hL : s.heap.IsTuple l items)
    (h : ∀ h', IsEnum h' (s.heap.objs.size + 1) s.heap.objs.size 0 .none → h'.IsTupleIter s.heap.objs.size l 0 → h'.objs.size = s.heap.objs.size + 2 →
      (∀ b o, s.heap.get? b = some o → h'.get? b = some o) → Q (.ref (s.heap.objs.size + 1)) { s with heap := h' }) :
    wpAny (model prog w) A (call (.type "enumerate") [.ref l]) Q E s := by
  obtain ⟨⟨c, dct, dt, sl⟩, hl, hc, n, hd⟩ := hL
  replace hc : c = .type "tuple" := hc
  replace hd : dt = .seq items n := hd
  subst hc hd
  refine callType_new PySem.F.called_enumerate (by decide) (PySem.F.typeCall_enumerate_1 _) (PySem.F.newCall_enumerate_1 _) (fun obj => PySem.F.args_object_init_2 obj _) PySem.F.entry_enumerate_new (meets_enumT l items n dct sl) ⟨hl, ?_⟩
  have hz : (s.heap.push (Kd.ob (.tup l))).objs.size = s.heap.objs.size + 1 := Heap.size_push ..
  show _ ∧ _
  rw [hz]
  have he : IsEnum ((s.heap.push (Kd.ob (.tup l))).push { cls := .type "enumerate", data := .fields #[.none, .bool false, .ref s.heap.objs.size, rawInt 0, .none, .none] }) (s.heap.objs.size + 1) s.heap.objs.size 0 .none := by
    have q := Heap.get?_push_size (s.heap.push (Kd.ob (.tup l))) (o := { cls := .type "enumerate", data := .fields #[.none, .bool false, .ref s.heap.objs.size, rawInt 0, .none, .none] }) rfl
    rw [hz] at q; exact q
  exact ⟨⟨_, he, rfl⟩, h _ he ⟨_, Heap.get?_push_of_some _ (Heap.get?_push_size _ rfl), rfl, rfl⟩ (by rw [Heap.size_push, hz]) fun b o x => Heap.get?_push_of_some _ (Heap.get?_push_of_some _ x)⟩
theorem call_enum1 {prog : Program} {w : World} {A : Around} {E : Value → Shared → Prop} {s : Shared} (k : Kd) (its : Array Value) {Q : Value → Shared → Prop} (hL : k.has s.heap its)
    (h : ∀ h', IsEnum h' (s.heap.objs.size + 1) s.heap.objs.size 0 .none → k.st s.heap.objs.size 0 h' → h'.objs.size = s.heap.objs.size + 2 →
      (∀ b o, s.heap.get? b = some o → h'.get? b = some o) → Q (.ref (s.heap.objs.size + 1)) { s with heap := h' }) :
    wpAny (model prog w) A (call (.type "enumerate") [.ref k.ad]) Q E s := by
  cases k with
  | lst a => exact call_enumerate_list hL h
  | tup a => exact call_enumerate_tup hL h
theorem sndi_enum (F : Fit N X) {elts : List Expr} {kk : Nat} {tpos p pos : Pos} {a : Expr} {x : Ex} (hg : Gl X "enumerate") (hm : X.mg "enumerate" = none) (hs : isStar a = false) (ha : SndE N O X a x) :
    SndI N O X (.Tuple elts kk tpos) (.Call (.Name "enumerate" p) [a] [] pos) (itEnum x) := by
  intro Y tk env st σ Z c H R E T h pins s I
  have k := args1 hs ha tk R E h (T := fun v H1 => ∃ k1 : Kd, v = .ref k1.ad ∧ (∃ vs, k1.q N.K H1 vs) ∧ T (Je N.K k1) H1) fun w st1 Z1 c1 H1 v x1 R1 rv h1 => by
    obtain ⟨⟨m, ok⟩, e, hz, q⟩ := itms_ok h1 R1
    unfold enums at e
    split at e
    · rename_i l1 e1
      cases e
      obtain ⟨k1, rfl, ⟨vs, q1, _⟩, g1⟩ := srcq_ok R1 rv e1
      exact ⟨k1, rfl, ⟨vs, q1⟩, q _ (walk_enum g1) hz⟩
    · cases e
  refine Call_ (ld_blt I hg hm boot_enumerate (PyProof.Rows.callWith_type1 (thn (k pos pins s I) fun us s1 ⟨vs, H1, I1, r1, v, e, k1, e1, ⟨xs, q1⟩, q⟩ => ?_) (star_no hs _ _) rfl))
  subst e e1
  cases r1 with
  | cons r rr =>
    cases rr
    cases r
    rw [← F.K] at q1
    obtain ⟨its1, rv1, p1, _⟩ := Kd.items I1 q1
    have la := Kd.lt p1
    refine call_enum1 k1 its1.toArray p1 fun h' he h1 hsz hk => wpAny_pyIter_enum he ?_
    have I2 : Inv X pins σ H1 { s1 with heap := h' } := I1.kept (t' := s1.toks) hk
    refine ⟨s1.heap.objs.size + 1, [s1.heap.objs.size + 1, s1.heap.objs.size], _, _, H1, rfl, I2, turn_enum' (elts := elts) (kk := kk) (tpos := tpos) (k := k1) (Nat.succ_ne_self _) (Nat.ne_of_gt (Nat.lt_succ_of_lt la)) (Nat.ne_of_lt la), ⟨⟨.none, he⟩, h1⟩, fun c hcm => ?_, by rw [F.K]; exact q⟩
    have hle : s1.heap.objs.size ≤ c := by
      have e' : c = s1.heap.objs.size + 1 ∨ c = s1.heap.objs.size := by simpa using hcm
      rcases e' with z | z <;> rw [z] <;> first | exact Nat.le_add_right _ _ | exact Nat.le_refl _
    exact I1.fpOk hle (I1.hok.fresh hle)
end
end PV
end
section
set_option linter.all false
set_option Elab.async false
set_option maxRecDepth 100000
set_option maxHeartbeats 4000000
/-! PV7: data are read; operators. -/
namespace PV
open PySem PySem.Spec PyProof.Rows L2

mutual
def A.py : A → PyData
  | .bl b => .bool b
  | .int i => .int i
  | .str s => .str (S s)
  | .tup l => .tuple (A.pyL l)
  | .lst l => .list (A.pyL l)
  | _ => .none
termination_by structural x => x
def A.pyL : List A → List PyData
  | [] => []
  | a :: l => a.py :: A.pyL l
termination_by structural x => x
end
theorem pyL_map : ∀ l : List A, A.pyL l = l.map A.py
  | [] => rfl
  | a :: l => by rw [A.pyL, List.map_cons, pyL_map l]
mutual
theorem Rp.reads {N : Nm} {X : Cx} (F : Fit N X) {pins σ H s Z} (I : Inv X pins σ H s) (hz : Le Z H) : ∀ {a v u}, Rp N Z a v → RelV v u → a.data = true → ∃ as, Reads s.heap u a.py as
  | _, _, _, .non, r, _ => by cases r; exact ⟨_, .none⟩
  | _, _, _, .bl b, r, _ => by cases r; exact ⟨_, .bool b⟩
  | _, _, _, .int i, r, _ => by obtain ⟨t, rfl⟩ := r; exact ⟨_, .int i t⟩
  | _, _, _, .str x, r, _ => by obtain ⟨t, rfl⟩ := r; exact ⟨_, .str _ t⟩
  | .tup l, _, _, .tup q rl, r, h => by
    cases r
    obtain ⟨its, rv, ⟨o, ho, hc, n, hd⟩, _⟩ := F.tuple I (hz.sqT q)
    obtain ⟨as, ra⟩ := RpL.reads F I hz rl rv (by simpa [A.data] using h)
    exact ⟨_, .tuple ho hc hd ra⟩
  | .lst l, _, _, .lst q rl, r, h => by
    cases r
    obtain ⟨its, rv, ⟨o, n, ho, hc, _, hd⟩, _⟩ := F.list I (hz.sqL q)
    obtain ⟨as, ra⟩ := RpL.reads F I hz rl rv (by simpa [A.data] using h)
    exact ⟨_, .list ho hc hd ra⟩
  | _, _, _, .dct .., _, h => by simp [A.data] at h
  | _, _, _, .ins .., _, h => by simp [A.data] at h
  | _, _, _, .fn _, _, h => by simp [A.data] at h
  | _, _, _, .cls _, _, h => by simp [A.data] at h
  | _, _, _, .ty _, _, h => by simp [A.data] at h
theorem RpL.reads {N : Nm} {X : Cx} (F : Fit N X) {pins σ H s Z} (I : Inv X pins σ H s) (hz : Le Z H) : ∀ {l vs us}, RpL N Z l vs → Vals vs us → A.dataL l = true → ∃ as, ReadsAll s.heap us (A.pyL l) as
  | _, _, _, .nil, .nil, _ => ⟨_, .nil⟩
  | _, _, _, .cons a r, .cons b q, h => by
    simp only [A.dataL, Bool.and_eq_true] at h
    obtain ⟨as, r1⟩ := Rp.reads F I hz a b h.1
    obtain ⟨bs, r2⟩ := RpL.reads F I hz r q h.2
    exact ⟨_, .cons r1 r2⟩
end
theorem Vw.reads {N : Nm} {X : Cx} (F : Fit N X) {pins σ H s Z} (I : Inv X pins σ H s) (hz : Le Z H) : ∀ {a v u}, Vw N Z H a v → RelV v u → a.data = true → ∃ as, Reads s.heap u a.py as
  | .lst l, _, _, ⟨p, vs, e, q, rl⟩, r, h => by
    subst e
    cases r
    obtain ⟨its, rv, ⟨o, n, ho, hc, _, hd⟩, _⟩ := F.list I q
    obtain ⟨as, ra⟩ := RpL.reads F I hz rl rv (by simpa [A.data] using h)
    exact ⟨_, .list ho hc hd ra⟩
  | .non, _, _, q, r, h => Rp.reads F I hz q r h
  | .bl _, _, _, q, r, h => Rp.reads F I hz q r h
  | .int _, _, _, q, r, h => Rp.reads F I hz q r h
  | .str _, _, _, q, r, h => Rp.reads F I hz q r h
  | .tup _, _, _, q, r, h => Rp.reads F I hz q r h
  | .dct _, _, _, _, _, h => by simp [A.data] at h
  | .set _, _, _, _, _, h => by simp [A.data] at h
  | .ins _ _, _, _, _, _, h => by simp [A.data] at h
  | .fn _, _, _, _, _, h => by simp [A.data] at h
  | .cls _, _, _, _, _, h => by simp [A.data] at h
  | .ty _, _, _, _, _, h => by simp [A.data] at h
mutual
theorem py_plain : ∀ a : A, a.py.plain = true
  | .non => rfl
  | .bl _ => rfl
  | .int _ => rfl
  | .str _ => rfl
  | .tup l => by simp only [A.py, PyData.plain]; exact pyL_plain l
  | .lst l => by simp only [A.py, PyData.plain]; exact pyL_plain l
  | .dct _ => rfl
  | .set _ => rfl
  | .ins _ _ => rfl
  | .fn _ => rfl
  | .cls _ => rfl
  | .ty _ => rfl
theorem pyL_plain : ∀ l : List A, PyData.plainAll (A.pyL l) = true
  | [] => rfl
  | a :: l => by simp only [A.pyL, PyData.plainAll, Bool.and_eq_true]; exact ⟨py_plain a, pyL_plain l⟩
end
mutual
theorem py_dep : ∀ a : A, a.py.depth = a.dep
  | .non => rfl
  | .bl _ => rfl
  | .int _ => rfl
  | .str _ => rfl
  | .tup l => by simp only [A.py, PyData.depth, A.dep, pyL_dep l]
  | .lst l => by simp only [A.py, PyData.depth, A.dep, pyL_dep l]
  | .dct _ => rfl
  | .set _ => rfl
  | .ins _ _ => rfl
  | .fn _ => rfl
  | .cls _ => rfl
  | .ty _ => rfl
theorem pyL_dep : ∀ l : List A, PyData.depthAll (A.pyL l) = A.depL l
  | [] => rfl
  | a :: l => by simp only [A.pyL, PyData.depthAll, A.depL, py_dep a, pyL_dep l]
end
theorem S_beq (a b : List Nat) : (S a == S b) = (a == b) := by
  by_cases h : a = b
  · subst h; simp
  · have h2 : S a ≠ S b := fun e => h (S_inj e)
    rw [beq_eq_false_iff_ne.mpr h, beq_eq_false_iff_ne.mpr h2]
mutual
theorem py_eqv : ∀ a b : A, a.data = true → b.data = true → PyData.eqv a.py b.py = A.eqv a b
  | .non, b, _, h => by cases b <;> first | rfl | cases h
  | .bl c, b, _, h => by cases b <;> first | rfl | cases h
  | .int i, b, _, h => by cases b <;> first | rfl | cases h
  | .str s, b, _, h => by cases b <;> first | rfl | exact S_beq _ _ | cases h
  | .tup l, b, hl, h => by
    cases b <;> first | rfl | cases h | skip
    rename_i m
    exact pyL_eqv l m (by simpa [A.data] using hl) (by simpa [A.data] using h)
  | .lst l, b, hl, h => by
    cases b <;> first | rfl | cases h | skip
    rename_i m
    exact pyL_eqv l m (by simpa [A.data] using hl) (by simpa [A.data] using h)
theorem pyL_eqv : ∀ l m : List A, A.dataL l = true → A.dataL m = true → PyData.eqvAll (A.pyL l) (A.pyL m) = A.eqvL l m
  | [], [], _, _ => rfl
  | [], _ :: _, _, _ => rfl
  | _ :: _, [], _, _ => rfl
  | a :: l, b :: m, h, k => by
    simp only [A.dataL, Bool.and_eq_true] at h k
    simp only [A.pyL, PyData.eqvAll, A.eqvL, py_eqv a b h.1 k.1, pyL_eqv l m h.2 k.2]
end
mutual
theorem py_alike : ∀ a b : A, A.alike a b = true → a.data = true ∧ b.data = true → PySem.W.alike a.py b.py = true
  | .non, b, h, _ => by cases b <;> first | rfl | cases h
  | .bl _, b, h, _ => by cases b <;> first | rfl | cases h
  | .int _, b, h, _ => by cases b <;> first | rfl | cases h
  | .str _, b, h, _ => by cases b <;> first | rfl | cases h
  | .tup l, b, h, d => by
    cases b <;> simp only [A.alike] at h <;> first | cases h | skip
    rename_i m
    simp only [A.py, PySem.W.alike]
    exact pyL_alike l m h (by simpa [A.data] using d)
  | .lst l, b, h, d => by
    cases b <;> simp only [A.alike] at h <;> first | cases h | skip
    rename_i m
    simp only [A.py, PySem.W.alike]
    exact pyL_alike l m h (by simpa [A.data] using d)
theorem pyL_alike : ∀ l m : List A, A.alikeL l m = true → A.dataL l = true ∧ A.dataL m = true → PySem.W.alikeAll (A.pyL l) (A.pyL m) = true
  | [], _, _, _ => by simp [A.pyL, PySem.W.alikeAll]
  | _ :: _, [], _, _ => by simp [A.pyL, PySem.W.alikeAll]
  | a :: l, b :: m, h, d => by
    simp only [A.dataL, A.alikeL, Bool.and_eq_true] at h d
    simp only [A.pyL, PySem.W.alikeAll, Bool.and_eq_true]
    exact ⟨py_alike a b h.1 ⟨d.1.1, d.2.1⟩, pyL_alike l m h.2 ⟨d.1.2, d.2.2⟩⟩
end
mutual
theorem py_toks : ∀ a : A, PySem.W.keyToks a.py = a.toks
  | .non => rfl
  | .bl _ => rfl
  | .int _ => rfl
  | .str _ => rfl
  | .tup l => by simp only [A.py, PySem.W.keyToks, A.toks, pyL_toks l]
  | .lst l => by simp only [A.py, PySem.W.keyToks, A.toks, pyL_toks l]
  | .dct _ => rfl
  | .set _ => rfl
  | .ins _ _ => rfl
  | .fn _ => rfl
  | .cls _ => rfl
  | .ty _ => rfl
theorem pyL_toks : ∀ l : List A, PySem.W.keyToksAll (A.pyL l) = A.toksL l
  | [] => rfl
  | a :: l => by simp only [A.pyL, PySem.W.keyToksAll, A.toksL, py_toks a, pyL_toks l]
end
theorem itLt_eq (a b : Int ⊕ List Nat) : itemLt a b = itLt a b := by
  cases a <;> cases b <;> first | rfl | exact decide_eq_decide.mpr Iff.rfl
theorem lexS_eq : ∀ a b : List (Int ⊕ List Nat), lexLt itemOrd a b = lexS a b
  | [], [] => rfl
  | [], _ :: _ => rfl
  | _ :: _, [] => rfl
  | x :: r, y :: t => by
    rw [lex_cons, lexS_eq r t]
    show (itemLt x y || (!itemLt y x && lexS r t)) = _
    rw [itLt_eq, itLt_eq]
    rfl
theorem py_lt (a b : A) : PySem.W.dataLt a.py b.py = A.lt a b := by
  unfold PySem.W.dataLt A.lt
  rw [lexS_eq, py_toks, py_toks]
theorem lt_int (i j : Int) : A.lt (.int i) (.int j) = decide (i < j) := by rw [← py_lt]; exact PySem.W.dataLt_int i j
theorem lt_str (i j : List Nat) : A.lt (.str i) (.str j) = decide (i < j) := by
  rw [← py_lt]
  refine (PySem.W.dataLt_str (S i) (S j)).trans ?_
  exact decide_eq_decide.mpr Iff.rfl
theorem lt_tup_nil : A.lt (.tup []) (.tup []) = false := rfl
theorem lt_tup_cons {x y : A} {l m : List A} (h : A.alike x y = true) (d : x.data = true ∧ y.data = true) : A.lt (.tup (x :: l)) (.tup (y :: m)) = if A.eqv x y then A.lt (.tup l) (.tup m) else A.lt x y := by
  rw [← py_lt]
  refine (PySem.W.dataLt_tuple _ _).trans ?_
  rw [A.pyL, A.pyL, PySem.W.dataLt_cons (py_alike x y h d), py_eqv x y d.1 d.2, ← py_lt x y, ← py_lt (.tup l)]
  have e : PySem.W.dataLt (A.tup l).py (A.tup m).py = lexLt itemOrd (PySem.W.keyToksAll (A.pyL l)) (PySem.W.keyToksAll (A.pyL m)) := PySem.W.dataLt_tuple _ _
  rw [e]
theorem lt_lst_cons {x y : A} {l m : List A} (h : A.alike x y = true) (d : x.data = true ∧ y.data = true) : A.lt (.lst (x :: l)) (.lst (y :: m)) = if A.eqv x y then A.lt (.lst l) (.lst m) else A.lt x y := lt_tup_cons h d
end PV
end
section
set_option linter.all false
set_option Elab.async false
set_option maxRecDepth 100000
set_option maxHeartbeats 4000000
/-! PV8: operators by values. -/
namespace PV
open PySem PySem.Spec PyProof.Rows L2

/-- what an operation's rule has to give -/
abbrev Got (N : Nm) (Z : Hp) (c : List Addr) (st : Sto) (H : Hp) (r : A) : VK := fun v' H' => ∃ Z', Ext Z c H Z' c H' ∧ RelH N Z' c st H' ∧ Rp N Z' r v'
theorem Got.same {N Z c st H r v} (R : RelH N Z c st H) (h : Rp N Z r v) : Got N Z c st H r v H := ⟨Z, Ext.refl .., R, h⟩
theorem Got.post {N : Nm} {X : Cx} {pins σ Z c st H r u s'} (h : EP X pins σ (Got N Z c st H r) u s') : PostV N X pins σ Z c st H r u s' := by
  obtain ⟨v, H', I, rv, Z', x, R, q⟩ := h
  exact ⟨Z', H', v, I, x, R, rv, q⟩
theorem Got.tup {N Z c st H l vs} (R : RelH N Z c st H) (r : RpL N Z l vs) {p : Addr} (hp : H p = none) : Got N Z c st H (.tup l) (.ref p) (upd H p (.tup vs)) := by
  obtain ⟨x, R'⟩ := ext_new (o := .tup vs) R hp
  exact ⟨_, x, R', .tup (SqT.of upd_same) (r.mono x.zz)⟩
theorem Got.lst {N Z c st H l vs} (R : RelH N Z c st H) (r : RpL N Z l vs) {p : Addr} (hp : H p = none) : Got N Z c st H (.lst l) (.ref p) (upd H p (.lst vs)) := by
  obtain ⟨x, R'⟩ := ext_new (o := .lst vs) R hp
  exact ⟨_, x, R', .lst (SqL.of upd_same) (r.mono x.zz)⟩
section
variable {N : Nm} {X : Cx}
theorem val2_of {f : Value → Value → Sem Value} {r : R2} {g : A → A → Option A} (F : Fit N X) (ho : OpR X f r)
    (h : ∀ Z c st H a v b u y, RelH N Z c st H → Vw N Z H a v → Vw N Z H b u → g a b = some y → r v u H (Got N Z c st H y)) : Val2 N X f g := by
  intro pins s σ Z c st H a v u a' v' u' y I R q rv q' rv' e
  exact thn (ho pins s σ H v v' u u' _ I rv rv' (h Z c st H a v a' v' y R q q' e)) fun w s' p => Got.post p
theorem val1_of {f : Value → Sem Value} {r : V → Hp → VK → Prop} {g : A → Option A} (F : Fit N X) (ho : UnR X f r)
    (h : ∀ Z c st H a v y, RelH N Z c st H → Vw N Z H a v → g a = some y → r v H (Got N Z c st H y)) : Val1 N X f g := by
  intro pins s σ Z c st H a v u y I R q rv e
  exact thn (ho pins s σ H v u _ I rv (h Z c st H a v y R q e)) fun w s' p => Got.post p
theorem Val2.or {f : Value → Value → Sem Value} {g g' k : A → A → Option A} (h : Val2 N X f g) (h' : Val2 N X f g') (e : ∀ a b y, k a b = some y → g a b = some y ∨ g' a b = some y) : Val2 N X f k := by
  intro pins s σ Z c st H a v u a' v' u' y I R q rv q' rv' z
  rcases e _ _ _ z with z | z
  · exact h pins s σ Z c st H a v u a' v' u' y I R q rv q' rv' z
  · exact h' pins s σ Z c st H a v u a' v' u' y I R q rv q' rv' z
/-- a tuple as it is read: a list as it is read -/
theorem Vw.tupq {Z H l v} (hz : Le Z H) (h : Vw N Z H (.tup l) v) : ∃ p vs, v = .ref p ∧ SqT N.K H p vs ∧ RpL N Z l vs := by
  cases (show Rp N Z (.tup l) v from h) with
  | tup q r => exact ⟨_, _, rfl, hz.sqT q, r⟩
theorem int_of {Z H i v} (h : Vw N Z H (.int i) v) : v = .int i := by cases (show Rp N Z (.int i) v from h); rfl
theorem bl_of {Z H i v} (h : Vw N Z H (.bl i) v) : v = .bl i := by cases (show Rp N Z (.bl i) v from h); rfl
theorem str_of {Z H i v} (h : Vw N Z H (.str i) v) : v = .str (S i) := by cases (show Rp N Z (.str i) v from h); rfl
theorem non_of {Z H v} (h : Vw N Z H .non v) : v = .non := by cases (show Rp N Z .non v from h); rfl
theorem S_app (a b : List Nat) : S a ++ S b = S (a ++ b) := by
  show PySem.Str.mk (a.toArray ++ b.toArray) = PySem.Str.mk (a ++ b).toArray
  simp

/-! ### + -/
theorem cat_list {X : Cx} {pins σ H s} {l b : Addr} {xs ys : List V} {Q : VK} (I : Inv X pins σ H s) (hl : SqL X.K H l xs) (hb : SqL X.K H b ys) (hz : xs.length + ys.length ≤ sizeLine) (q : ∀ p, H p = none → Q (.ref p) (upd H p (.lst (xs ++ ys)))) :
    wpAny (model X.prog X.w) X.A (binaryOp .Add (.ref l) (.ref b)) (EP X pins σ Q) X.xe s := by
  obtain ⟨its, r, p1, _⟩ := I.list hl
  obtain ⟨its2, r2, p2, _⟩ := I.list hb
  have l1 := r.length
  have l2 := r2.length
  obtain ⟨⟨cc, dd, dt, sl⟩, n, e, hc, hd, hdat⟩ := p1
  obtain ⟨⟨cc2, dd2, dt2, sl2⟩, n2, e2, hc2, hd2, hdat2⟩ := p2
  simp only at hc hd hdat hc2 hd2 hdat2
  subst hc hd hdat hc2 hd2 hdat2
  have ea : its.toArray ++ its2.toArray = (its ++ its2).toArray := by simp
  refine concat_meets ⟨_, e, rfl⟩ ⟨_, e2, rfl⟩ noFill_list_add seq_list_add PySem.F.slot_list_add PySem.F.entry_list_add (PySem.F.args_list_add_2 _ _) (list_addW l b its.toArray its2.toArray n n2 none none sl sl2 (by simpa using (by omega : its.length + its2.length ≤ sizeLine))) ⟨e, e2, ?_⟩
  rw [ea]
  refine ⟨.ref s.heap.objs.size, _, I.laid (t' := s.toks) (o := .lst (xs ++ ys)) (fun b ob q => Heap.get?_push_of_some _ q) (Nat.le_refl _) ?_, rfl, q _ (I.hok.fresh (Nat.le_refl _))⟩
  exact ⟨by simpa using hz, its ++ its2, _, r.append r2, Heap.get?_push_size s.heap rfl⟩
def gAddI : A → A → Option A
  | .int i, .int j => some (.int (i + j))
  | _, _ => none
def gAddS : A → A → Option A
  | .str s, .str t => if s.length + t.length ≤ Sz then some (.str (s ++ t)) else none
  | _, _ => none
def gAddT : A → A → Option A
  | .tup l, .tup m => fits (l ++ m) .tup
  | _, _ => none
def gAddL : A → A → Option A
  | .lst l, .lst m => fits (l ++ m) .lst
  | _, _ => none
theorem fits_ok {l : List A} {f : List A → A} {y : A} (h : fits l f = some y) : l.length ≤ Sz ∧ y = f l := by
  unfold fits at h
  split at h
  · rename_i hl; cases h; exact ⟨hl, rfl⟩
  · cases h
theorem v_addL (F : Fit N X) : Val2 N X (binaryOp .Add) gAddL := by
  intro pins s σ Z c st H a v u a' v' u' y I R q rv q' rv' e
  cases a <;> cases a' <;> first | cases e | skip
  rename_i l m
  obtain ⟨hz, rfl⟩ := fits_ok e
  obtain ⟨p, vs, rfl, h1, r1⟩ := q
  obtain ⟨p2, us, rfl, h2, r2⟩ := q'
  cases rv
  cases rv'
  refine thn (cat_list I (F.sqL h1) (F.sqL h2) (by rw [← r1.length, ← r2.length, sizeLine_eq]; simpa using hz) fun p hp => Got.lst R (r1.append r2) hp) fun w s' p => Got.post p
theorem v_addT (F : Fit N X) : Val2 N X (binaryOp .Add) gAddT := val2_of F op_catA fun Z c st H a v b u y R q q' e => by
  cases a <;> cases b <;> first | cases e | skip
  rename_i l m
  obtain ⟨hz, rfl⟩ := fits_ok e
  obtain ⟨p, vs, rfl, h1, r1⟩ := Vw.tupq R.sub q
  obtain ⟨p2, us, rfl, h2, r2⟩ := Vw.tupq R.sub q'
  refine ⟨p, p2, vs, us, rfl, rfl, F.sqT h1, F.sqT h2, by rw [← r1.length, ← r2.length, sizeLine_eq]; simpa using hz, fun e => ?_, fun _ e => ?_, fun _ _ p hp => Got.tup R (r1.append r2) hp⟩
  · subst e
    cases r1
    exact Got.same R q'
  · subst e
    cases r2
    rw [List.append_nil]
    exact Got.same R q
theorem v_addS (F : Fit N X) : Val2 N X (binaryOp .Add) gAddS := val2_of F op_add_str fun Z c st H a v b u y R q q' e => by
  cases a <;> cases b <;> first | cases e | skip
  rename_i l m
  simp only [gAddS] at e
  split at e
  · rename_i hz
    cases e
    rw [str_of q, str_of q']
    exact ⟨_, _, rfl, rfl, by rw [S_len, S_len, sizeLine_eq]; exact hz, Got.same R (by rw [S_app]; exact .str _)⟩
  · cases e
theorem v_addI (F : Fit N X) : Val2 N X (binaryOp .Add) gAddI := val2_of F op_add fun Z c st H a v b u y R q q' e => by
  cases a <;> cases b <;> first | cases e | skip
  rw [int_of q, int_of q']
  exact ⟨_, _, rfl, rfl, Got.same R (.int _)⟩
theorem v_add (F : Fit N X) : Val2 N X (binaryOp .Add) fAdd :=
  Val2.or (v_addI F) (Val2.or (v_addS F) (Val2.or (v_addT F) (v_addL F) (k := fun a b => match a, b with | .tup l, .tup m => fits (l ++ m) .tup | .lst l, .lst m => fits (l ++ m) .lst | _, _ => none) fun a b y e => by
    cases a <;> cases b <;> first | exact .inl e | exact .inr e | cases e) (k := fun a b => match a, b with | .str s, .str t => if s.length + t.length ≤ Sz then some (.str (s ++ t)) else none | .tup l, .tup m => fits (l ++ m) .tup | .lst l, .lst m => fits (l ++ m) .lst | _, _ => none) fun a b y e => by
    cases a <;> cases b <;> first | exact .inl e | exact .inr e | cases e) fun a b y e => by
    cases a <;> cases b <;> first | exact .inl e | exact .inr e | cases e
theorem v_sub (F : Fit N X) : Val2 N X (binaryOp .Sub) fSub := val2_of F op_sub fun Z c st H a v b u y R q q' e => by
  cases a <;> cases b <;> first | cases e | skip
  rw [int_of q, int_of q']
  exact ⟨_, _, rfl, rfl, Got.same R (.int _)⟩
theorem v_div (F : Fit N X) : Val2 N X (binaryOp .FloorDiv) fDiv := val2_of F op_fdivN fun Z c st H a v b u y R q q' e => by
  cases a <;> cases b <;> first | cases e | skip
  simp only [fDiv] at e
  split at e
  · rename_i h
    cases e
    simp only [Bool.and_eq_true, decide_eq_true_eq, bne_iff_ne] at h
    rw [int_of q, int_of q']
    exact ⟨_, _, rfl, rfl, h, Got.same R (.int _)⟩
  · cases e
theorem v_mod (F : Fit N X) : Val2 N X (binaryOp .Mod) fMod := val2_of F op_modN fun Z c st H a v b u y R q q' e => by
  cases a <;> cases b <;> first | cases e | skip
  simp only [fMod] at e
  split at e
  · rename_i h
    cases e
    simp only [bne_iff_ne] at h
    rw [int_of q, int_of q']
    exact ⟨_, _, rfl, rfl, h, Got.same R (.int _)⟩
  · cases e
theorem v_pow (F : Fit N X) : Val2 N X (binaryOp .Pow) fPow := val2_of F op_pow fun Z c st H a v b u y R q q' e => by
  cases a <;> cases b <;> first | cases e | skip
  simp only [fPow] at e
  split at e
  · rename_i h
    cases e
    simp only [Bool.and_eq_true, decide_eq_true_eq] at h
    rw [int_of q, int_of q']
    exact ⟨_, _, rfl, rfl, ⟨h.1.1, h.1.2, h.2⟩, Got.same R (.int _)⟩
  · cases e
theorem v_neg (F : Fit N X) : Val1 N X (unaryOp .USub) fNeg := val1_of F un_neg fun Z c st H a v y R q e => by
  cases a <;> first | cases e | skip
  rw [int_of q]
  exact ⟨_, rfl, Got.same R (.int _)⟩

/-! ### * -/
theorem tuple_mulS (l : Addr) (items : Array Value) (n : Nat) (dd : Option Addr) (sl : Array (Option Value)) (x : Int) (u : Tok) (c0 : (decide (x < -(2 ^ 63)) || decide (x ≥ 2 ^ 63)) = false) (c1 : (items.isEmpty || x == 1) = true) :
    Meets (Builtin.«tuple.__mul__» ⟨[.ref l, .int x u], []⟩) (fun _ R s => s.heap.get? l = some { cls := .type "tuple", dict := dd, data := .seq items n, slots := sl } ∧ R (.ok (.ret (Value.ref l))) s) :=
  .of_wp fun prog w A R s h => by
    obtain ⟨hp, g, d, tk, os⟩ := s
    obtain ⟨hl, h⟩ := h
    have f1 := AutoSeq1.idx_int
    wp_walk using wpAny_loadPart' hl
    repeat (first
      | (refine wpAny_ite_false (decide_eq_false (by rw [c0]; exact Bool.false_ne_true)) ?_; wp_walk using wpAny_loadPart' hl)
      | (refine wpAny_ite_true (decide_eq_true (by rw [c1])) ?_; wp_walk using wpAny_loadPart' hl))
    exact ⟨_, rfl, h⟩
theorem tuple_mul0 (l : Addr) (items : Array Value) (n : Nat) (dd : Option Addr) (sl : Array (Option Value)) (x : Int) (u : Tok) (c0 : (decide (x < -(2 ^ 63)) || decide (x ≥ 2 ^ 63)) = false) (c1 : (items.isEmpty || x == 1) = false) (c2 : (decide (x ≤ 0) || items.isEmpty) = true) :
    Meets (Builtin.«tuple.__mul__» ⟨[.ref l, .int x u], []⟩) (fun _ R s => s.heap.get? l = some { cls := .type "tuple", dict := dd, data := .seq items n, slots := sl } ∧
      R (.ok (.ret (Value.ref s.heap.objs.size))) { s with heap := s.heap.push { cls := Value.type "tuple", data := Data.seq #[] }, toks := s.toks }) :=
  .of_wp fun prog w A R s h => by
    obtain ⟨hp, g, d, tk, os⟩ := s
    obtain ⟨hl, h⟩ := h
    have f1 := AutoSeq1.idx_int
    wp_walk using wpAny_loadPart' hl
    repeat (first
      | (refine wpAny_ite_false (decide_eq_false (by rw [c0]; exact Bool.false_ne_true)) ?_; wp_walk using wpAny_loadPart' hl)
      | (refine wpAny_ite_false (decide_eq_false (by rw [c1]; exact Bool.false_ne_true)) ?_; wp_walk using wpAny_loadPart' hl)
      | (refine wpAny_ite_true (decide_eq_true (by rw [c2])) ?_; wp_walk using wpAny_loadPart' hl))
    exact ⟨_, rfl, h⟩

def gMulI : A → A → Option A
  | .int i, .int j => if mulOk i j then some (.int (i * j)) else none
  | _, _ => none
def gMulT : A → A → Option A
  | .tup l, .int k => if decide (k ≤ 1000) && decide (-1000 ≤ k) && decide (l.length ≤ 1000) then some (.tup (rep l k.toNat)) else none
  | _, _ => none
theorem v_mulI (F : Fit N X) : Val2 N X (binaryOp .Mult) gMulI := val2_of F op_mul fun Z c st H a v b u y R q q' e => by
  cases a <;> cases b <;> first | cases e | skip
  simp only [gMulI] at e
  split at e
  · rename_i h
    cases e
    simp only [mulOk, Bool.and_eq_true, Bool.or_eq_true, decide_eq_true_eq] at h
    rw [int_of q, int_of q']
    exact ⟨_, _, rfl, rfl, h, Got.same R (.int _)⟩
  · cases e
theorem RpL.rep {Z l vs} (r : RpL N Z l vs) : ∀ n : Nat, RpL N Z (PV.rep l n) (List.replicate n vs).flatten
  | 0 => .nil
  | n + 1 => by
    unfold PV.rep
    rw [List.replicate_succ, List.replicate_succ, List.flatten_cons, List.flatten_cons]
    exact r.append (RpL.rep r n)
theorem rep_one (l : List A) : PV.rep l 1 = l := by simp [PV.rep]
theorem v_mulT (F : Fit N X) : Val2 N X (binaryOp .Mult) gMulT := by
  intro pins s σ Z c st H a v u a' v' u' y I R q rv q' rv' e
  cases a <;> cases a' <;> first | cases e | skip
  rename_i l k
  simp only [gMulT] at e
  split at e
  · rename_i h
    cases e
    simp only [Bool.and_eq_true, decide_eq_true_eq] at h
    obtain ⟨⟨h1, h2⟩, h3⟩ := h
    obtain ⟨p, vs, rfl, hq, rl⟩ := Vw.tupq R.sub q
    have hv := int_of q'
    subst hv
    have hl := rl.length
    by_cases big : vs ≠ [] ∧ 2 ≤ k
    · refine thn (op_repT pins s σ H _ _ u u' _ I rv rv' ⟨p, k, vs, rfl, rfl, F.sqT hq, big.1, big.2, h1, by omega, fun p' hp' => Got.tup R (rl.rep k.toNat) hp'⟩) fun w s' z => Got.post z
    · cases rv
      obtain ⟨t, rfl⟩ := rv'
      obtain ⟨its, r, ⟨⟨cls, dd, data, sl⟩, ho, hc, n, hd⟩, hs⟩ := F.tuple I hq
      simp only at hc hd
      subst hc hd
      have hl2 := r.length
      have c0 : (decide (k < -(2 ^ 63)) || decide (k ≥ 2 ^ 63)) = false := by
        rw [decide_eq_false (by omega), decide_eq_false (by omega)] <;> rfl
      have go : ∀ {Sp : PySem.Spec}, Meets (Builtin.«tuple.__mul__» ⟨[.ref p, .int k t], []⟩) Sp → (∀ A : Around, ∀ R : Result → Shared → Prop, (∀ w s2, PostV N X pins σ Z c st H (.tup (rep l k.toNat)) w s2 → R (.ok (.ret w)) s2) → Sp A R s) →
          wpAny (model X.prog X.w) X.A (binaryOp .Mult (.ref p) (.int k t)) (PostV N X pins σ Z c st H (.tup (rep l k.toNat))) X.xe s := fun {Sp} m hS =>
        wpAny_binaryOp_repeat_ref (T := "tuple") (U := "int") (by decide) ⟨_, ho, rfl⟩ (fun s' => typeIs_int s' k t) noFill_tuple_mul PySem.F.fills_int_mul PySem.F.slot_int_rmul repeat_tuple PySem.F.slot_int_index.lookup
          (call_meets PySem.F.slot_int_rmul (typeIs_int s k t) PySem.F.entry_int_rmul (PySem.F.args_int_rmul_2 _ _) (int_rmul_tuple k t p its.toArray n dd sl)
            ⟨ho, rfl, ⟨_, ho, rfl⟩, call_meets PySem.F.slot_tuple_mul ⟨_, ho, rfl⟩ PySem.F.entry_tuple_mul (PySem.F.args_tuple_mul_2 _ _) m (hS _ (wants _ _) fun w s2 z => z)⟩)
      by_cases hsame : (its.toArray.isEmpty || k == 1) = true
      · have hy : rep l k.toNat = l := by
          rw [Bool.or_eq_true] at hsame
          rcases hsame with h | h
          · have : its = [] := by simpa using h
            subst this
            have : l = [] := List.eq_nil_of_length_eq_zero (by rw [hl, hl2]; rfl)
            subst this
            simp [rep]
          · have : k = 1 := by simpa using h
            subst this
            exact rep_one l
        exact go (tuple_mulS p its.toArray n dd sl k t c0 hsame) fun A R' post => ⟨ho, post _ _ ⟨Z, H, .ref p, I, Ext.refl .., R, rfl, by rw [hy]; exact q⟩⟩
      · have hsame : (its.toArray.isEmpty || k == 1) = false := by simpa using hsame
        have hne : vs ≠ [] := fun e => by
          subst e
          have : its = [] := List.eq_nil_of_length_eq_zero hl2.symm
          subst this
          simp at hsame
        have hk : k ≤ 0 := by
          rw [Bool.or_eq_false_iff, beq_eq_false_iff_ne] at hsame
          have : ¬ (2 ≤ k) := fun h => big ⟨hne, h⟩
          have := hsame.2
          omega
        have hk0 : k.toNat = 0 := by omega
        refine go (tuple_mul0 p its.toArray n dd sl k t c0 hsame (by rw [decide_eq_true hk, Bool.true_or])) fun A R' post => ⟨ho, post _ _ ?_⟩
        have hfree : H s.heap.objs.size = none := I.hok.fresh (Nat.le_refl _)
        obtain ⟨Z', x, R2, q2⟩ := Got.tup (N := N) (l := []) (vs := []) R .nil hfree
        refine ⟨Z', _, .ref s.heap.objs.size, I.laid (t' := s.toks) (o := .tup []) (fun b ob q => Heap.get?_push_of_some _ q) (Nat.le_refl _) ⟨Nat.zero_le _, [], .nil, IsTup.new _ _⟩, x, R2, rfl, ?_⟩
        rw [hk0]
        exact q2
  · cases e
theorem v_mul (F : Fit N X) : Val2 N X (binaryOp .Mult) fMul := Val2.or (v_mulI F) (v_mulT F) fun a b y e => by
  cases a <;> cases b <;> first | exact .inl e | exact .inr e | cases e

/-! ### comparisons -/
theorem flat_ok {a : A} (h : flat a = true) : a.data = true ∧ a.dep ≤ 60 := by
  unfold flat at h
  simpa using h
theorem v_eq (F : Fit N X) : Val2 N X (compareOp .Eq) fEq := by
  intro pins s σ Z c st H a v u a' v' u' y I R q rv q' rv' e
  unfold fEq at e
  split at e
  · rename_i h
    cases e
    simp only [Bool.and_eq_true] at h
    obtain ⟨d1, l1⟩ := flat_ok h.1
    obtain ⟨d2, l2⟩ := flat_ok h.2
    obtain ⟨as, ra⟩ := Vw.reads F I R.sub q rv d1
    obtain ⟨bs, rb⟩ := Vw.reads F I R.sub q' rv' d2
    refine PySem.SeqAt.eq_plain ra rb (py_plain _) (py_plain _) (by have := F.units; rw [py_dep, py_dep]; omega) ?_
    rw [py_eqv _ _ d1 d2]
    exact PostV.same (v := .bl _) I R rfl (.bl _)
  · cases e
theorem v_ne (F : Fit N X) : Val2 N X (compareOp .NotEq) fNe := by
  intro pins s σ Z c st H a v u a' v' u' y I R q rv q' rv' e
  unfold fNe at e
  split at e
  · rename_i h
    cases e
    simp only [Bool.and_eq_true] at h
    obtain ⟨d1, l1⟩ := flat_ok h.1
    obtain ⟨d2, l2⟩ := flat_ok h.2
    obtain ⟨as, ra⟩ := Vw.reads F I R.sub q rv d1
    obtain ⟨bs, rb⟩ := Vw.reads F I R.sub q' rv' d2
    refine PySem.SeqAt.ne_plain ra rb (py_plain _) (py_plain _) (by have := F.units; rw [py_dep, py_dep]; omega) ?_
    rw [py_eqv _ _ d1 d2]
    exact PostV.same (v := .bl _) I R rfl (.bl _)
  · cases e
theorem ordd_ok {a b : A} (h : ordd a b = true) : (A.alike a b = true ∧ A.alike b a = true) ∧ (a.data = true ∧ a.dep ≤ 60) ∧ (b.data = true ∧ b.dep ≤ 60) ∧ a.py ≠ .none := by
  unfold ordd at h
  simp only [Bool.and_eq_true, Bool.not_eq_true'] at h
  have d := flat_ok h.1.1.2
  refine ⟨h.1.1.1, d, flat_ok h.1.2, ?_⟩
  cases a with
  | non => have := h.2; simp [A.same] at this
  | bl _ => exact fun z => nomatch z
  | int _ => exact fun z => nomatch z
  | str _ => exact fun z => nomatch z
  | tup _ => simp [A.py]
  | lst _ => simp [A.py]
  | _ => have := d.1; simp [A.data] at this
theorem v_lt (F : Fit N X) : Val2 N X (compareOp .Lt) fLt := by
  intro pins s σ Z c st H a v u a' v' u' y I R q rv q' rv' e
  unfold fLt at e
  split at e
  · rename_i h
    cases e
    obtain ⟨al, ⟨d1, l1⟩, ⟨d2, l2⟩, hn⟩ := ordd_ok h
    obtain ⟨as, ra⟩ := Vw.reads F I R.sub q rv d1
    obtain ⟨bs, rb⟩ := Vw.reads F I R.sub q' rv' d2
    refine PySem.W.lt_data ra rb (py_alike _ _ al.1 ⟨d1, d2⟩) hn (by have := F.units; rw [py_dep, py_dep]; omega) ?_
    rw [py_lt]
    exact PostV.same (v := .bl _) I R rfl (.bl _)
  · cases e
theorem v_gt (F : Fit N X) : Val2 N X (compareOp .Gt) fGt := by
  intro pins s σ Z c st H a v u a' v' u' y I R q rv q' rv' e
  unfold fGt at e
  split at e
  · rename_i h
    cases e
    obtain ⟨al, ⟨d1, l1⟩, ⟨d2, l2⟩, hn⟩ := ordd_ok h
    obtain ⟨as, ra⟩ := Vw.reads F I R.sub q rv d1
    obtain ⟨bs, rb⟩ := Vw.reads F I R.sub q' rv' d2
    refine PySem.W.gt_data ra rb (py_alike _ _ al.1 ⟨d1, d2⟩) hn (by have := F.units; rw [py_dep, py_dep]; omega) ?_
    rw [py_lt]
    exact PostV.same (v := .bl _) I R rfl (.bl _)
  · cases e
theorem v_le (F : Fit N X) : Val2 N X (compareOp .LtE) fLe := by
  intro pins s σ Z c st H a v u a' v' u' y I R q rv q' rv' e
  unfold fLe at e
  split at e
  · rename_i h
    cases e
    obtain ⟨al, ⟨d1, l1⟩, ⟨d2, l2⟩, hn⟩ := ordd_ok h
    obtain ⟨as, ra⟩ := Vw.reads F I R.sub q rv d1
    obtain ⟨bs, rb⟩ := Vw.reads F I R.sub q' rv' d2
    refine PySem.W.le_data ra rb (py_alike _ _ al.1 ⟨d1, d2⟩) hn (by have := F.units; rw [py_dep, py_dep]; omega) ?_
    rw [py_lt]
    exact PostV.same (v := .bl _) I R rfl (.bl _)
  · cases e
theorem v_ge (F : Fit N X) : Val2 N X (compareOp .GtE) fGe := by
  intro pins s σ Z c st H a v u a' v' u' y I R q rv q' rv' e
  unfold fGe at e
  split at e
  · rename_i h
    cases e
    obtain ⟨al, ⟨d1, l1⟩, ⟨d2, l2⟩, hn⟩ := ordd_ok h
    obtain ⟨as, ra⟩ := Vw.reads F I R.sub q rv d1
    obtain ⟨bs, rb⟩ := Vw.reads F I R.sub q' rv' d2
    refine PySem.W.ge_data ra rb (py_alike _ _ al.1 ⟨d1, d2⟩) hn (by have := F.units; rw [py_dep, py_dep]; omega) ?_
    rw [py_lt]
    exact PostV.same (v := .bl _) I R rfl (.bl _)
  · cases e

/-! ### in, is -/
theorem inL (F : Fit N X) {pins s σ Z c st H a v u a' v' u' k} (I : Inv X pins σ H s) (R : RelH N Z c st H) (q : Vw N Z H a v) (rv : RelV v u) (q' : Vw N Z H a' v') (rv' : RelV v' u') (e : fInB a a' = some k) :
    (∀ {Q : Value → Shared → Prop}, Q (.bool k) s → wpAny (model X.prog X.w) X.A (compareOp .In u u') Q X.xe s) ∧ ∀ {Q : Value → Shared → Prop}, Q (.bool (!k)) s → wpAny (model X.prog X.w) X.A (compareOp .NotIn u u') Q X.xe s := by
  cases a' <;> simp only [fInB] at e <;> first | cases e | skip
  · rename_i l
    split at e
    · rename_i h
      cases e
      simp only [Bool.and_eq_true] at h
      obtain ⟨d1, l1⟩ := flat_ok h.1
      obtain ⟨d2, l2⟩ := flat_ok h.2
      obtain ⟨as, ra⟩ := Vw.reads F I R.sub q rv d1
      obtain ⟨bs, rb⟩ := Vw.reads F I R.sub q' rv' d2
      have hp : PyData.plainAll (A.pyL l) = true := pyL_plain l
      have hu : X.A.units + 1 + min (PyData.depthAll (A.pyL l)) a.py.depth < cLine := by have := F.units; rw [py_dep]; omega
      have hk : ((A.pyL l).any fun y => PyData.eqv y a.py) = l.any fun x => A.eqv x a := by
        rw [pyL_map, List.any_map]
        have d3 : A.dataL l = true := by simpa [A.data] using d2
        clear rb hp hu d2 l2 q' h
        induction l with
        | nil => rfl
        | cons x l ih =>
          simp only [A.dataL, Bool.and_eq_true] at d3
          simp only [List.any_cons, Function.comp, py_eqv x a d3.1 d1]
          rw [← ih d3.2]
      rw [← hk]
      exact ⟨fun hQ => PySem.SeqAt.in_tuple_data rb ra hp (py_plain _) hu hQ, fun hQ => PySem.SeqAt.notIn_tuple_data rb ra hp (py_plain _) hu hQ⟩
    · cases e
  · rename_i l
    split at e
    · rename_i h
      cases e
      simp only [Bool.and_eq_true] at h
      obtain ⟨d1, l1⟩ := flat_ok h.1
      obtain ⟨d2, l2⟩ := flat_ok h.2
      obtain ⟨as, ra⟩ := Vw.reads F I R.sub q rv d1
      obtain ⟨bs, rb⟩ := Vw.reads F I R.sub q' rv' d2
      have hp : PyData.plainAll (A.pyL l) = true := pyL_plain l
      have hu : X.A.units + 1 + min (PyData.depthAll (A.pyL l)) a.py.depth < cLine := by have := F.units; rw [py_dep]; omega
      have hk : ((A.pyL l).any fun y => PyData.eqv y a.py) = l.any fun x => A.eqv x a := by
        rw [pyL_map, List.any_map]
        have d3 : A.dataL l = true := by simpa [A.data] using d2
        clear rb hp hu d2 l2 q' h
        induction l with
        | nil => rfl
        | cons x l ih =>
          simp only [A.dataL, Bool.and_eq_true] at d3
          simp only [List.any_cons, Function.comp, py_eqv x a d3.1 d1]
          rw [← ih d3.2]
      rw [← hk]
      exact ⟨fun hQ => PySem.SeqAt.in_list_data rb ra hp (py_plain _) hu hQ, fun hQ => PySem.SeqAt.notIn_list_data rb ra hp (py_plain _) hu hQ⟩
    · cases e
theorem v_in (F : Fit N X) : Val2 N X (compareOp .In) fIn := by
  intro pins s σ Z c st H a v u a' v' u' y I R q rv q' rv' e
  unfold fIn at e
  cases h : fInB a a' with
  | none => rw [h] at e; cases e
  | some k =>
    rw [h] at e
    cases e
    exact (inL F I R q rv q' rv' h).1 (PostV.same (v := .bl _) I R rfl (.bl _))
theorem v_nin (F : Fit N X) : Val2 N X (compareOp .NotIn) fNin := by
  intro pins s σ Z c st H a v u a' v' u' y I R q rv q' rv' e
  unfold fNin at e
  cases h : fInB a a' with
  | none => rw [h] at e; cases e
  | some k =>
    rw [h] at e
    cases e
    exact (inL F I R q rv q' rv' h).2 (PostV.same (v := .bl _) I R rfl (.bl _))
theorem isB_ok {Z H a v b u k} (q : Vw N Z H a v) (q' : Vw N Z H b u) (e : fIsB a b = some k) : u = .non ∧ k = decide (v = .non) := by
  cases b <;> first | cases e | skip
  refine ⟨non_of q', ?_⟩
  cases a with
  | non => rw [non_of q]; simp [A.same]
  | lst l => obtain ⟨p, vs, rfl, _⟩ := q; simp [A.same]
  | dct l => obtain ⟨p, vs, ep, rfl, _⟩ := q; simp [A.same]
  | bl i => rw [bl_of q]; simp [A.same]
  | int i => rw [int_of q]; simp [A.same]
  | str i => rw [str_of q]; simp [A.same]
  | tup l => cases (show Rp N Z (.tup l) v from q); simp [A.same]
  | set l => cases (show Rp N Z (.set l) v from q)
  | ins k l => cases (show Rp N Z (.ins k l) v from q); simp [A.same]
  | fn f => cases (show Rp N Z (.fn f) v from q); simp [A.same]
  | cls f => cases (show Rp N Z (.cls f) v from q); simp [A.same]
  | ty f => cases (show Rp N Z (.ty f) v from q); simp [A.same]
theorem v_is (F : Fit N X) : Val2 N X (compareOp .Is) fIs := val2_of F op_isN fun Z c st H a v b u y R q q' e => by
  unfold fIs at e
  cases h : fIsB a b with
  | none => rw [h] at e; cases e
  | some k =>
    rw [h] at e
    cases e
    obtain ⟨h1, h2⟩ := isB_ok q q' h
    exact ⟨h1, by rw [← h2]; exact Got.same R (.bl _)⟩
theorem v_isn (F : Fit N X) : Val2 N X (compareOp .IsNot) fIsn := val2_of F op_notN fun Z c st H a v b u y R q q' e => by
  unfold fIsn at e
  cases h : fIsB a b with
  | none => rw [h] at e; cases e
  | some k =>
    rw [h] at e
    cases e
    obtain ⟨h1, h2⟩ := isB_ok q q' h
    exact ⟨h1, by rw [← h2]; exact Got.same R (.bl _)⟩
end
end PV
end
section
set_option linter.all false
set_option Elab.async false
set_option maxRecDepth 100000
set_option maxHeartbeats 4000000
/-! PV9: built-in functions by values. -/
namespace PV
open PySem PySem.Spec PyProof.Rows L2

inductive VwL (N : Nm) (Z H : Hp) : List A → List V → Prop
  | nil : VwL N Z H [] []
  | cons {a v l vs} : Vw N Z H a v → VwL N Z H l vs → VwL N Z H (a :: l) (v :: vs)
theorem vws_ok {N : Nm} {Z c st H} (R : RelH N Z c st H) : ∀ {l : List PV.W} {vs m}, RpWs N Z c l vs → vws st l = some m → VwL N Z H m vs
  | [], _, m, .nil, h => by cases h; exact .nil
  | w :: l, _, m, .cons (v := v) a r, h => by
    rw [vws_cons] at h
    cases e : vw st w with
    | none => rw [e] at h; cases h
    | some b =>
      rw [e] at h
      cases e2 : vws st l with
      | none => rw [e2] at h; cases h
      | some m' =>
        rw [e2] at h
        cases h
        exact .cons (vw_ok R a e) (vws_ok R r e2)
def CallV (N : Nm) (X : Cx) (fv : Value) (f : List A → Option A) : Prop := ∀ pins s σ Z c st H l vs us y, Inv X pins σ H s → RelH N Z c st H → VwL N Z H l vs → Vals vs us → f l = some y →
  wpAny (model X.prog X.w) X.A (call fv us) (PostV N X pins σ Z c st H y) X.xe s
theorem opL_ok {N : Nm} {f : List A → Option A} {l st} {Y : WX} {σ Z c H} {Q : PV.W → Hp → List Addr → Hp → Prop} (h : Outc N Y σ Z c H (opL f l st) Q) : ∃ m r, vws st l = some m ∧ f m = some r ∧ Outc N Y σ Z c H (Res.ok (W.v r) st) Q := by
  unfold opL at h
  cases e : vws st l with
  | none => rw [e] at h; exact h.elim
  | some a =>
    rw [e] at h
    cases e2 : f a with
    | none => simp only [Option.bind_some, e2] at h; exact h.elim
    | some r => simp only [Option.bind_some, e2] at h; exact ⟨a, r, rfl, e2, h⟩
section
variable {N : Nm} {O : Orc} {X : Cx}
theorem snd_fnB {id : String} {x : PySem.Str} {f : List A → Option A} {e : Expr} {es : List Expr} {xs : Es} {p pos : Pos} (hc : CallV N X (.builtin id) f) (hg : Gl X x) (hm : X.mg x = none) (hv : bootBuiltins x = some (.builtin id)) (hn : x ≠ "__name__") (hd : (x == ("__debug__" : PySem.Str)) = false)
    (hst : (e :: es).all (fun e => !isStar e) = true) (ha : SndA N O X (e :: es) xs) : SndE N O X (.Call (.Name x p) (e :: es) [] pos) (eFn f xs) := by
  intro Y tk env st σ Z c H R E Q h pins s I
  have hs := hst
  simp only [List.all_cons, Bool.and_eq_true, Bool.not_eq_true'] at hs
  refine wpAny_Call_Name_kw (ld_blt I hg hm hv ?_ hn hd)
  have key : WA X (e :: es) σ H fun vs H1 => ∃ Z1 c1 st1 l, RelH N Z1 c1 st1 H1 ∧ RpWs N Z1 c1 l vs ∧ Outc N Y σ Z1 c1 H1 (opL f l st1) (fun w Z' c' H' => ∀ v, RpW N Z' c' w v → Q v H') :=
    ha Y tk env st σ Z c H R E _ (Outc.mono h.bind (Ext.refl ..) fun l Z1 c1 H1 _ ⟨st1, R1, x1, h1⟩ vs rvs => ⟨Z1, c1, st1, l, R1, rvs, h1⟩)
  refine PyProof.Rows.callWith_builtin1 (thn (key pos pins s I) fun us s1 ⟨vs, H1, I1, r1, Z1, c1, st1, l, R1, rl, q⟩ => ?_) (star_no hs.1 _ _) (no_star _ _ es (by simpa using hs.2))
  obtain ⟨m, r, e1, e2, q⟩ := opL_ok q
  exact thn (hc pins s1 σ Z1 c1 st1 H1 m vs us r I1 R1 (vws_ok R1 rl e1) r1 e2) fun w s' p => p.ep q
theorem snd_fnT {T : String} {x : PySem.Str} {f : List A → Option A} {e : Expr} {es : List Expr} {xs : Es} {p pos : Pos} (hc : CallV N X (.type T) f) (hg : Gl X x) (hm : X.mg x = none) (hv : bootBuiltins x = some (.type T)) (hn : x ≠ "__name__") (hd : (x == ("__debug__" : PySem.Str)) = false)
    (hst : (e :: es).all (fun e => !isStar e) = true) (ha : SndA N O X (e :: es) xs) : SndE N O X (.Call (.Name x p) (e :: es) [] pos) (eFn f xs) := by
  intro Y tk env st σ Z c H R E Q h pins s I
  have hs := hst
  simp only [List.all_cons, Bool.and_eq_true, Bool.not_eq_true'] at hs
  refine wpAny_Call_Name_kw (ld_blt I hg hm hv ?_ hn hd)
  have key : WA X (e :: es) σ H fun vs H1 => ∃ Z1 c1 st1 l, RelH N Z1 c1 st1 H1 ∧ RpWs N Z1 c1 l vs ∧ Outc N Y σ Z1 c1 H1 (opL f l st1) (fun w Z' c' H' => ∀ v, RpW N Z' c' w v → Q v H') :=
    ha Y tk env st σ Z c H R E _ (Outc.mono h.bind (Ext.refl ..) fun l Z1 c1 H1 _ ⟨st1, R1, x1, h1⟩ vs rvs => ⟨Z1, c1, st1, l, R1, rvs, h1⟩)
  refine PyProof.Rows.callWith_type1 (thn (key pos pins s I) fun us s1 ⟨vs, H1, I1, r1, Z1, c1, st1, l, R1, rl, q⟩ => ?_) (star_no hs.1 _ _) (no_star _ _ es (by simpa using hs.2))
  obtain ⟨m, r, e1, e2, q⟩ := opL_ok q
  exact thn (hc pins s1 σ Z1 c1 st1 H1 m vs us r I1 R1 (vws_ok R1 rl e1) r1 e2) fun w s' p => p.ep q

/-- a call with one value -/
def CV1 (N : Nm) (X : Cx) (fv : Value) (g : A → Option A) : Prop := ∀ pins s σ Z c st H a v u y, Inv X pins σ H s → RelH N Z c st H → Vw N Z H a v → RelV v u → g a = some y →
  wpAny (model X.prog X.w) X.A (call fv [u]) (PostV N X pins σ Z c st H y) X.xe s
theorem CV1.v {fv : Value} {g : A → Option A} {f : List A → Option A} (h : CV1 N X fv g) (e : ∀ l y, f l = some y → ∃ a, l = [a] ∧ g a = some y) : CallV N X fv f := by
  intro pins s σ Z c st H l vs us y I R q rv z
  obtain ⟨a, rfl, e2⟩ := e l y z
  cases q with
  | cons q qn =>
    cases qn
    cases rv with
    | cons rv rn =>
      cases rn
      exact h pins s σ Z c st H a _ _ y I R q rv e2
theorem CV1.of {fv : Value} {r : List V → Hp → VK → Prop} {g : A → Option A} (ho : CallR X fv r) (h : ∀ Z c st H a v y, RelH N Z c st H → Vw N Z H a v → g a = some y → r [v] H (Got N Z c st H y)) : CV1 N X fv g := by
  intro pins s σ Z c st H a v u y I R q rv e
  exact thn (ho pins s σ H [v] [u] _ I (.cons rv .nil) (h Z c st H a v y R q e)) fun w s' p => Got.post p
theorem CV1.or {fv : Value} {g g' k : A → Option A} (h : CV1 N X fv g) (h' : CV1 N X fv g') (e : ∀ a y, k a = some y → g a = some y ∨ g' a = some y) : CV1 N X fv k := by
  intro pins s σ Z c st H a v u y I R q rv z
  rcases e _ _ z with z | z
  · exact h pins s σ Z c st H a v u y I R q rv z
  · exact h' pins s σ Z c st H a v u y I R q rv z
theorem CallV.of2 {fv : Value} {r : List V → Hp → VK → Prop} {g : A → A → Option A} {f : List A → Option A} (ho : CallR X fv r) (e : ∀ l y, f l = some y → ∃ a b, l = [a, b] ∧ g a b = some y)
    (h : ∀ Z c st H a v b u y, RelH N Z c st H → Vw N Z H a v → Vw N Z H b u → g a b = some y → r [v, u] H (Got N Z c st H y)) : CallV N X fv f := by
  intro pins s σ Z c st H l vs us y I R q rv z
  obtain ⟨a, b, rfl, e2⟩ := e l y z
  cases q with
  | cons q qn =>
    cases qn with
    | cons q' qn =>
      cases qn
      exact thn (ho pins s σ H _ us _ I rv (h Z c st H a _ b _ y R q q' e2)) fun w s' p => Got.post p
theorem CallV.or {fv : Value} {g g' k : List A → Option A} (h : CallV N X fv g) (h' : CallV N X fv g') (e : ∀ l y, k l = some y → g l = some y ∨ g' l = some y) : CallV N X fv k := by
  intro pins s σ Z c st H l vs us y I R q rv z
  rcases e _ _ z with z | z
  · exact h pins s σ Z c st H l vs us y I R q rv z
  · exact h' pins s σ Z c st H l vs us y I R q rv z

/-! ### len -/
theorem len_raw {prog : Program} {w : World} {A : Around} {E : Value → Shared → Prop} {s : Shared} {d : Addr} {es : Array DictEntry} {ep : Nat} {Q : Value → Shared → Prop} (hd : (d == sysModules) = false) (hm : s.heap.DictRaw d es ep) (hfit : (es.size : Int) < 2 ^ 63)
    (h : Q (.int es.size (s.toks + 1)) { s with toks := s.toks + 1 + 1 }) : wpAny (model prog w) A (call (.builtin "len") [.ref d]) Q E s := by
  refine Calls.call_function_entry kind_len plain_len entry_len (args_len1 _) ?_
  unfold Builtin.«len»
  refine wpAny_bind (m := oneArg "len" _) (wpAny_pure ?_)
  refine wpAny_bind (m := callSpecial? (.ref d) (Str.ofString "__len__")) (wpAny_callSpecial?_slot (name := Str.ofString "__len__") hm.typeIs PySem.F.slot_dict_len (PySem.call_len_raw hd hm ?_))
  show wpAny _ _ _ _ _ { s with toks := s.toks + 1 }
  refine wpAny_bind (wpAny_holding (wpAny_pure ?_))
  refine wpAny_bind (wpAny_letGo ?_)
  show wpAny _ _ (if ((es.size : Nat) : Int) < 0 then _ else _) _ _ _
  rw [if_neg (by omega)]
  show wpAny _ _ (if ((es.size : Nat) : Int) ≥ 2 ^ 63 then _ else _) _ _ _
  rw [if_neg (by omega)]
  exact wpAny_bind (wpAny_mkInt (wpAny_pure ⟨_, rfl, h⟩))
def gLenS : A → Option A
  | .str s => if s.length ≤ Sz then some (.int s.length) else none
  | .tup l => some (.int l.length)
  | .lst l => some (.int l.length)
  | _ => none
def gLenD : A → Option A
  | .dct l => some (.int l.length)
  | _ => none
theorem c_lenS (F : Fit N X) : CV1 N X (.builtin "len") gLenS := CV1.of call_len fun Z c st H a v y R q e => by
  cases a <;> first | cases e | skip
  · simp only [gLenS] at e
    split at e
    · rename_i hz
      cases e
      rw [str_of q]
      refine ⟨_, _, rfl, ⟨by rw [S_len, sizeLine_eq]; exact hz, rfl⟩, ?_⟩
      rw [S_len]
      exact Got.same R (.int _)
    · cases e
  · obtain ⟨p, us, rfl, h1, r⟩ := Vw.tupq R.sub q
    refine ⟨_, _, rfl, Or.inr ⟨us, F.sqT h1, rfl⟩, ?_⟩
    rw [← r.length]
    exact Got.same R (.int _)
  · obtain ⟨p, us, rfl, h1, r⟩ := q
    refine ⟨_, _, rfl, Or.inl ⟨us, F.sqL h1, rfl⟩, ?_⟩
    rw [← r.length]
    exact Got.same R (.int _)
theorem c_lenD (F : Fit N X) : CV1 N X (.builtin "len") gLenD := by
  intro pins s σ Z c st H a v u y I R q rv e
  cases a <;> first | cases e | skip
  rename_i l
  obtain ⟨p, es, ep, rfl, h1, r, h3, h4⟩ := q
  cases rv
  have hl := r.length
  refine len_raw h3 (dO_raw I h1) (by have := sizeLine_eq; have := h4.1; omega) ?_
  refine ⟨Z, H, .int es.size, I.tok _, Ext.refl .., R, ⟨_, rfl⟩, ?_⟩
  rw [hl, Array.length_toList]
  exact .int _
theorem b_len (F : Fit N X) : CallV N X (.builtin "len") bLen := (CV1.or (c_lenS F) (c_lenD F) (k := fun a => bLen [a]) fun a y e => by cases a <;> first | exact .inl e | exact .inr e | cases e).v fun l y e => by
  match l, e with
  | [a], e => exact ⟨a, rfl, e⟩
  | [], e => cases e
  | a :: b :: l, e => cases a <;> cases e
theorem one_of {f : List A → Option A} (h0 : f [] = none) (h2 : ∀ a b l, f (a :: b :: l) = none) : ∀ l y, f l = some y → ∃ a, l = [a] ∧ (fun a => f [a]) a = some y := fun l y e => by
  match l, e with
  | [a], e => exact ⟨a, rfl, e⟩
  | [], e => rw [h0] at e; cases e
  | a :: b :: l, e => rw [h2] at e; cases e

/-! ### int, bool, abs, str -/
theorem b_int (F : Fit N X) : CallV N X (.type "int") bInt := (CV1.of (g := fun a => bInt [a]) call_int1 fun Z c st H a v y R q e => by
  cases a <;> first | cases e | skip
  · rw [bl_of q]
    rename_i b
    refine .inr ⟨_, rfl, ?_⟩
    cases b <;> exact Got.same R (.int _)
  · rw [int_of q]
    exact .inl ⟨_, rfl, Got.same R (.int _)⟩).v (one_of rfl fun a b l => by cases a <;> rfl)
theorem b_bool (F : Fit N X) : CallV N X (.type "bool") bBool := (CV1.of (g := fun a => bBool [a]) call_bool1 fun Z c st H a v y R q e => by
  cases a <;> first | cases e | skip
  · rw [bl_of q]
    exact .inr ⟨_, rfl, Got.same R (.bl _)⟩
  · rw [int_of q]
    exact .inl ⟨_, rfl, Got.same R (.bl _)⟩).v (one_of rfl fun a b l => by cases a <;> rfl)
theorem b_abs (F : Fit N X) : CallV N X (.builtin "abs") bAbs := (CV1.of (g := fun a => bAbs [a]) call_abs fun Z c st H a v y R q e => by
  cases a <;> first | cases e | skip
  rw [int_of q]
  exact ⟨_, rfl, Got.same R (.int _)⟩).v (one_of rfl fun a b l => by cases a <;> rfl)
theorem S_strOf (s : String) : PySem.Str.ofString s = S (strOf s) := by
  rw [← S_of (PySem.Str.ofString s)]
  exact congrArg S (signs_ofString s)
theorem b_str (F : Fit N X) : CallV N X (.type "str") bStr := (CV1.of (g := fun a => bStr [a]) (call_str_int.or SkE.call_str_str) fun Z c st H a v y R q e => by
  cases a <;> first | cases e | skip
  · rename_i i
    simp only [bStr] at e
    split at e
    · rename_i h
      cases e
      rw [int_of q]
      refine .inl ⟨_, rfl, h, ?_⟩
      have e := S_strOf (toString i)
      show Got N Z c st H (.str (strOf (toString i))) (.str (PySem.Str.ofString (toString i))) H
      rw [e]
      exact Got.same R (.str _)
    · cases e
  · rw [str_of q]
    exact .inr ⟨_, rfl, Got.same R (.str _)⟩).v (one_of rfl fun a b l => by cases a <;> rfl)

/-! ### max, min, all, any, sum -/
theorem intsA_ok {Z} : ∀ {l : List A} {vs : List V} {ns : List Int}, RpL N Z l vs → intsA l = some ns → vs = ns.map V.int ∧ l = ns.map A.int
  | [], _, _, .nil, e => by cases e; exact ⟨rfl, rfl⟩
  | a :: l, _, ns, .cons q r, e => by
    cases a <;> first | cases e | skip
    rename_i i
    have e : (intsA l).map (i :: ·) = some ns := e
    cases e2 : intsA l with
    | none => rw [e2] at e; cases e
    | some ms =>
      rw [e2] at e
      cases e
      obtain ⟨h1, h2⟩ := intsA_ok r e2
      cases q
      rw [h1, h2]
      exact ⟨rfl, rfl⟩
theorem holdAll_ints {h : Heap} : ∀ {ns : List Int} {us : List Value}, Vals (ns.map V.int) us → ∃ as, ReadsAll h us (ns.map PyData.int) as
  | [], _, .nil => ⟨_, .nil⟩
  | n :: ns, _, .cons r q => by
    obtain ⟨t, rfl⟩ := r
    obtain ⟨as, k⟩ := holdAll_ints q
    exact ⟨_, .cons (.int n t) k⟩
theorem PostV.int {pins σ Z c st H s' i t} (I : Inv X pins σ H s') (R : RelH N Z c st H) : PostV N X pins σ Z c st H (.int i) (.int i t) s' := ⟨Z, H, .int i, I, Ext.refl .., R, ⟨t, rfl⟩, .int i⟩
def gMax1 : A → Option A
  | .lst l => match intsA l with
    | some (i :: m) => some (.int (maxI i m))
    | _ => none
  | .tup l => match intsA l with
    | some (i :: m) => some (.int (maxI i m))
    | _ => none
  | _ => none
def gMin1 : A → Option A
  | .lst l => match intsA l with
    | some (i :: m) => some (.int (minI i m))
    | _ => none
  | .tup l => match intsA l with
    | some (i :: m) => some (.int (minI i m))
    | _ => none
  | _ => none
theorem holds_int {h : Heap} {v : Value} {i : Int} (H : PySem.W.Holds h v i) : ∃ t, v = .int i t := by
  obtain ⟨as, r⟩ := H
  cases r
  exact ⟨_, rfl⟩
theorem mx_eq (i : Int) (m : List Int) : PySem.W.maxOf i m = maxI i m := by
  unfold PySem.W.maxOf maxI
  congr 1
  funext a y
  show (if decide (a < y) = true then y else a) = _
  simp
theorem mn_eq (i : Int) (m : List Int) : PySem.W.minOf i m = minI i m := by
  unfold PySem.W.minOf minI
  congr 1
  funext a y
  show (if decide (y < a) = true then y else a) = _
  simp
theorem c_max1 (F : Fit N X) : CV1 N X (.builtin "max") gMax1 := by
  intro pins s σ Z c st H a v u y I R q rv e
  have hh : X.A.handled = none := F.hd
  have hu : X.A.units + 1 + PySem.W.Datum.depth Int < cLine := by have := F.units; show X.A.units + 1 + 0 < cLine; omega
  cases a <;> first | cases e | skip
  · rename_i l
    simp only [gMax1] at e
    split at e
    · rename_i i m hm
      cases e
      obtain ⟨p, vs, rfl, h1, r⟩ := Vw.tupq R.sub q
      cases rv
      obtain ⟨hv, _⟩ := intsA_ok r hm
      obtain ⟨its, rr, p1, _⟩ := F.tuple I h1
      subst hv
      refine PySem.W.max_tuple_datum (α := Int) (x := i) (xs := m) hh p1 (holdAll_ints (ns := i :: m) rr) hu fun j w h' tk _ hw hk => ?_
      obtain ⟨t, rfl⟩ := holds_int hw
      rw [mx_eq]
      exact PostV.int (I.kept hk) R
    · cases e
  · rename_i l
    simp only [gMax1] at e
    split at e
    · rename_i i m hm
      cases e
      obtain ⟨p, vs, rfl, h1, r⟩ := q
      cases rv
      obtain ⟨hv, _⟩ := intsA_ok r hm
      obtain ⟨its, rr, p1, _⟩ := F.list I h1
      subst hv
      refine PySem.W.max_list_datum (α := Int) (x := i) (xs := m) hh p1.isList (holdAll_ints (ns := i :: m) rr) hu fun j w h' tk _ hw hk => ?_
      obtain ⟨t, rfl⟩ := holds_int hw
      rw [mx_eq]
      exact PostV.int (I.kept hk) R
    · cases e
theorem c_min1 (F : Fit N X) : CV1 N X (.builtin "min") gMin1 := by
  intro pins s σ Z c st H a v u y I R q rv e
  have hh : X.A.handled = none := F.hd
  have hu : X.A.units + 1 + PySem.W.Datum.depth Int < cLine := by have := F.units; show X.A.units + 1 + 0 < cLine; omega
  cases a <;> first | cases e | skip
  · rename_i l
    simp only [gMin1] at e
    split at e
    · rename_i i m hm
      cases e
      obtain ⟨p, vs, rfl, h1, r⟩ := Vw.tupq R.sub q
      cases rv
      obtain ⟨hv, _⟩ := intsA_ok r hm
      obtain ⟨its, rr, p1, _⟩ := F.tuple I h1
      subst hv
      refine PySem.W.min_tuple_datum (α := Int) (x := i) (xs := m) hh p1 (holdAll_ints (ns := i :: m) rr) hu fun j w h' tk _ hw hk => ?_
      obtain ⟨t, rfl⟩ := holds_int hw
      rw [mn_eq]
      exact PostV.int (I.kept hk) R
    · cases e
  · rename_i l
    simp only [gMin1] at e
    split at e
    · rename_i i m hm
      cases e
      obtain ⟨p, vs, rfl, h1, r⟩ := q
      cases rv
      obtain ⟨hv, _⟩ := intsA_ok r hm
      obtain ⟨its, rr, p1, _⟩ := F.list I h1
      subst hv
      refine PySem.W.min_list_datum (α := Int) (x := i) (xs := m) hh p1.isList (holdAll_ints (ns := i :: m) rr) hu fun j w h' tk _ hw hk => ?_
      obtain ⟨t, rfl⟩ := holds_int hw
      rw [mn_eq]
      exact PostV.int (I.kept hk) R
    · cases e
def gMax2 : List A → Option A
  | [.int i, .int j] => some (.int (if j > i then j else i))
  | _ => none
def gMin2 : List A → Option A
  | [.int i, .int j] => some (.int (if j < i then j else i))
  | _ => none
theorem ints2_of {f : List A → Option A} {l y} (h : f l = some y) (k : ∀ l y, f l = some y → ∃ i j : Int, l = [.int i, .int j]) {Z H vs} (q : VwL N Z H l vs) : ∃ i j : Int, l = [.int i, .int j] ∧ vs = [.int i, .int j] := by
  obtain ⟨i, j, rfl⟩ := k l y h
  cases q with
  | cons q1 r =>
    cases r with
    | cons q2 r =>
      cases r
      rw [int_of q1, int_of q2]
      exact ⟨i, j, rfl, rfl⟩
theorem c_max2 (F : Fit N X) : CallV N X (.builtin "max") gMax2 := by
  intro pins s σ Z c st H l vs us y I R q rv e
  obtain ⟨i, j, rfl, rfl⟩ := ints2_of e (fun l y e => by unfold gMax2 at e; split at e; · exact ⟨_, _, rfl⟩
                                                         · cases e) q
  cases e
  exact thn (call_max2 F.calm pins s σ H _ us _ I rv ⟨i, j, rfl, Got.same R (.int _)⟩) fun w s' p => Got.post p
theorem c_min2 (F : Fit N X) : CallV N X (.builtin "min") gMin2 := by
  intro pins s σ Z c st H l vs us y I R q rv e
  obtain ⟨i, j, rfl, rfl⟩ := ints2_of e (fun l y e => by unfold gMin2 at e; split at e; · exact ⟨_, _, rfl⟩
                                                         · cases e) q
  cases e
  exact thn (call_min2 F.calm pins s σ H _ us _ I rv ⟨i, j, rfl, Got.same R (.int _)⟩) fun w s' p => Got.post p
theorem b_max (F : Fit N X) : CallV N X (.builtin "max") bMax := CallV.or (c_max2 F) (((c_max1 F).v (f := fun l => match l with | [a] => gMax1 a | _ => none) fun l y e => by
  match l, e with
  | [a], e => exact ⟨a, rfl, e⟩)) fun l y e => by
  unfold bMax at e
  split at e
  · exact .inl e
  · exact .inr e
  · exact .inr e
  · cases e
theorem b_min (F : Fit N X) : CallV N X (.builtin "min") bMin := CallV.or (c_min2 F) (((c_min1 F).v (f := fun l => match l with | [a] => gMin1 a | _ => none) fun l y e => by
  match l, e with
  | [a], e => exact ⟨a, rfl, e⟩)) fun l y e => by
  unfold bMin at e
  split at e
  · exact .inl e
  · exact .inr e
  · exact .inr e
  · cases e
theorem truths_ok : ∀ {l : List A} {bs : List Bool}, truths l = some bs → A.dataL l = true → ((A.pyL l).all PyData.truthy = bs.all id ∧ (A.pyL l).any PyData.truthy = bs.any id) ∧ ∀ x ∈ A.pyL l, x.fits63
  | [], bs, e, _ => by cases e; exact ⟨⟨rfl, rfl⟩, fun _ h => nomatch h⟩
  | a :: l, bs, e, d => by
    simp only [truths] at e
    cases e1 : truth1 a with
    | none => rw [e1] at e; cases e
    | some b =>
      cases e2 : truths l with
      | none => rw [e1, e2] at e; cases e
      | some m =>
        rw [e1, e2] at e
        cases e
        simp only [A.dataL, Bool.and_eq_true] at d
        obtain ⟨⟨h1, h2⟩, h3⟩ := truths_ok e2 d.2
        have hb : a.py.truthy = b ∧ a.py.fits63 := by
          cases a with
          | non => cases e1; exact ⟨rfl, trivial⟩
          | bl k => cases e1; exact ⟨rfl, trivial⟩
          | int i => cases e1; exact ⟨rfl, trivial⟩
          | str s =>
            simp only [truth1, A.truth] at e1
            split at e1
            · rename_i hl
              cases e1
              refine ⟨?_, ?_⟩
              · show (((S s).length : Int) != 0) = _
                rw [S_len]
                cases s with
                | nil => rfl
                | cons a s =>
                  have : (((a :: s).length : Nat) : Int) ≠ 0 := by simp only [List.length_cons]; omega
                  rw [bne_iff_ne.mpr this]; rfl
              · show ((S s).length : Int) < 2 ^ 63
                rw [S_len]; have : Sz = 16777216 := rfl; omega
            · cases e1
          | tup l =>
            simp only [truth1] at e1
            split at e1
            · rename_i hl
              cases e1
              refine ⟨?_, ?_⟩
              · show (!(A.pyL l).isEmpty) = _
                cases l <;> rfl
              · show ((A.pyL l).length : Int) < 2 ^ 63
                rw [pyL_map, List.length_map]; have : Sz = 16777216 := rfl; omega
            · cases e1
          | lst l =>
            simp only [truth1] at e1
            split at e1
            · rename_i hl
              cases e1
              refine ⟨?_, ?_⟩
              · show (!(A.pyL l).isEmpty) = _
                cases l <;> rfl
              · show ((A.pyL l).length : Int) < 2 ^ 63
                rw [pyL_map, List.length_map]; have : Sz = 16777216 := rfl; omega
            · cases e1
          | _ => cases e1
        simp only [A.pyL, List.all_cons, List.any_cons, hb.1, h1, h2, id]
        refine ⟨⟨trivial, trivial⟩, fun x hx => ?_⟩
        rcases List.mem_cons.mp hx with rfl | hx
        · exact hb.2
        · exact h3 x hx
def gAll : A → Option A
  | .lst l => if flat (.lst l) then (truths l).map fun m => .bl (m.all id) else none
  | .tup l => if flat (.tup l) then (truths l).map fun m => .bl (m.all id) else none
  | _ => none
theorem c_all (F : Fit N X) : CV1 N X (.builtin "all") gAll := by
  intro pins s σ Z c st H a v u y I R q rv e
  have hh : X.A.handled = none := F.hd
  cases a <;> first | cases e | skip
  · rename_i l
    simp only [gAll] at e
    split at e
    · rename_i hf
      cases e2 : truths l with
      | none => rw [e2] at e; cases e
      | some bs =>
        rw [e2] at e
        cases e
        have d := (flat_ok hf).1
        have d' : A.dataL l = true := by simpa [A.data] using d
        obtain ⟨hb, h3⟩ := truths_ok e2 d'
        obtain ⟨p, vs, rfl, h1, r⟩ := Vw.tupq R.sub q
        cases rv
        obtain ⟨its, rr, p1, _⟩ := F.tuple I h1
        obtain ⟨as, ra⟩ := RpL.reads F I R.sub r rr d'
        refine PySem.W.all_tuple_data hh p1 ra (pyL_plain l) h3 fun h' tk hk => ?_
        rw [hb.1]
        exact PostV.same (v := .bl _) (I.kept hk) R rfl (.bl _)
    · cases e
  · rename_i l
    simp only [gAll] at e
    split at e
    · rename_i hf
      cases e2 : truths l with
      | none => rw [e2] at e; cases e
      | some bs =>
        rw [e2] at e
        cases e
        have d := (flat_ok hf).1
        have d' : A.dataL l = true := by simpa [A.data] using d
        obtain ⟨hb, h3⟩ := truths_ok e2 d'
        obtain ⟨p, vs, rfl, h1, r⟩ := q
        cases rv
        obtain ⟨its, rr, p1, _⟩ := F.list I h1
        obtain ⟨as, ra⟩ := RpL.reads F I R.sub r rr d'
        refine PySem.W.all_list_data hh p1.isList ra (pyL_plain l) h3 fun h' tk hk => ?_
        rw [hb.1]
        exact PostV.same (v := .bl _) (I.kept hk) R rfl (.bl _)
    · cases e
theorem b_all (F : Fit N X) : CallV N X (.builtin "all") bAll := (c_all F).v fun l y e => by
  unfold bAll at e
  split at e
  · exact ⟨_, rfl, e⟩
  · exact ⟨_, rfl, e⟩
  · cases e
def gAny : A → Option A
  | .lst l => if flat (.lst l) then (truths l).map fun m => .bl (m.any id) else none
  | .tup l => if flat (.tup l) then (truths l).map fun m => .bl (m.any id) else none
  | _ => none
theorem c_any (F : Fit N X) : CV1 N X (.builtin "any") gAny := by
  intro pins s σ Z c st H a v u y I R q rv e
  have hh : X.A.handled = none := F.hd
  cases a <;> first | cases e | skip
  · rename_i l
    simp only [gAny] at e
    split at e
    · rename_i hf
      cases e2 : truths l with
      | none => rw [e2] at e; cases e
      | some bs =>
        rw [e2] at e
        cases e
        have d := (flat_ok hf).1
        have d' : A.dataL l = true := by simpa [A.data] using d
        obtain ⟨hb, h3⟩ := truths_ok e2 d'
        obtain ⟨p, vs, rfl, h1, r⟩ := Vw.tupq R.sub q
        cases rv
        obtain ⟨its, rr, p1, _⟩ := F.tuple I h1
        obtain ⟨as, ra⟩ := RpL.reads F I R.sub r rr d'
        refine PySem.W.any_tuple_data hh p1 ra (pyL_plain l) h3 fun h' tk hk => ?_
        rw [hb.2]
        exact PostV.same (v := .bl _) (I.kept hk) R rfl (.bl _)
    · cases e
  · rename_i l
    simp only [gAny] at e
    split at e
    · rename_i hf
      cases e2 : truths l with
      | none => rw [e2] at e; cases e
      | some bs =>
        rw [e2] at e
        cases e
        have d := (flat_ok hf).1
        have d' : A.dataL l = true := by simpa [A.data] using d
        obtain ⟨hb, h3⟩ := truths_ok e2 d'
        obtain ⟨p, vs, rfl, h1, r⟩ := q
        cases rv
        obtain ⟨its, rr, p1, _⟩ := F.list I h1
        obtain ⟨as, ra⟩ := RpL.reads F I R.sub r rr d'
        refine PySem.W.any_list_data hh p1.isList ra (pyL_plain l) h3 fun h' tk hk => ?_
        rw [hb.2]
        exact PostV.same (v := .bl _) (I.kept hk) R rfl (.bl _)
    · cases e
theorem b_any (F : Fit N X) : CallV N X (.builtin "any") bAny := (c_any F).v fun l y e => by
  unfold bAny at e
  split at e
  · exact ⟨_, rfl, e⟩
  · exact ⟨_, rfl, e⟩
  · cases e

theorem sum_tup {prog : Program} {w : World} {A : Around} {E : Value → Shared → Prop} {s : Shared} {t : Addr} {its : List Value} {ns : List Int} {Q : Value → Shared → Prop} (hh : A.handled = none) (ht : s.heap.IsTuple t its.toArray) (hi : IntsAre its ns)
    (h : ∀ h' tk t', (∀ b o, s.heap.get? b = some o → h'.get? b = some o) → Q (.int ns.sum t') { s with heap := h', toks := tk }) : wpAny (model prog w) A (call (.builtin "sum") [.ref t]) Q E s := by
  obtain ⟨xs, e⟩ := hi.allInts.items
  have hn : numsOf (intItems xs).toList = ns := by rw [← e]; exact hi.numsOf
  rw [nums_intItems] at hn
  rw [e] at ht
  refine PySem.W.ktm_sumG hh ht fun h' tk t' hk => ?_
  have q := h h' tk t' hk
  rw [preSum_eq, List.take_of_length_le (by simp), hn]
  exact q
def gSum : A → Option A
  | .lst l => (intsA l).map fun m => .int m.sum
  | .tup l => (intsA l).map fun m => .int m.sum
  | _ => none
theorem c_sum (F : Fit N X) : CV1 N X (.builtin "sum") gSum := by
  intro pins s σ Z c st H a v u y I R q rv e
  have hh : X.A.handled = none := F.hd
  cases a <;> first | cases e | skip
  · rename_i l
    simp only [gSum] at e
    cases e2 : intsA l with
    | none => rw [e2] at e; cases e
    | some ns =>
      rw [e2] at e
      cases e
      obtain ⟨p, vs, rfl, h1, r⟩ := Vw.tupq R.sub q
      cases rv
      obtain ⟨hv, _⟩ := intsA_ok r e2
      obtain ⟨its, rr, p1, _⟩ := F.tuple I h1
      subst hv
      exact sum_tup hh p1 rr.ints fun h' tk t' hk => PostV.int (I.kept hk) R
  · rename_i l
    simp only [gSum] at e
    cases e2 : intsA l with
    | none => rw [e2] at e; cases e
    | some ns =>
      rw [e2] at e
      cases e
      obtain ⟨p, vs, rfl, h1, r⟩ := q
      cases rv
      obtain ⟨hv, _⟩ := intsA_ok r e2
      obtain ⟨its, rr, p1, _⟩ := F.list I h1
      subst hv
      exact sum_raw hh p1.isList rr.ints fun h' tk t' hk => PostV.int (I.kept hk) R
theorem b_sum (F : Fit N X) : CallV N X (.builtin "sum") bSum := (c_sum F).v fun l y e => by
  unfold bSum at e
  split at e
  · exact ⟨_, rfl, e⟩
  · exact ⟨_, rfl, e⟩
  · cases e

/-! ### tuple, list, sorted -/
theorem b_tuple (F : Fit N X) : CallV N X (.type "tuple") bTuple := (CV1.of (g := fun a => bTuple [a]) call_tuple_of fun Z c st H a v y R q e => by
  cases a <;> first | cases e | skip
  · obtain ⟨p, vs, rfl, h1, r⟩ := Vw.tupq R.sub q
    exact ⟨p, vs, rfl, .inr ⟨F.sqT h1, Got.same R q⟩⟩
  · obtain ⟨p, vs, rfl, h1, r⟩ := q
    exact ⟨p, vs, rfl, .inl ⟨F.sqL h1, fun l hl => Got.tup R r hl⟩⟩).v (one_of rfl fun a b l => by cases a <;> rfl)
theorem b_list (F : Fit N X) : CallV N X (.type "list") bList := (CV1.of (g := fun a => bList [a]) call_list_of fun Z c st H a v y R q e => by
  cases a <;> first | cases e | skip
  · obtain ⟨p, vs, rfl, h1, r⟩ := Vw.tupq R.sub q
    exact ⟨p, vs, rfl, .inr (F.sqT h1), fun l hl => Got.lst R r hl⟩
  · obtain ⟨p, vs, rfl, h1, r⟩ := q
    exact ⟨p, vs, rfl, .inl (F.sqL h1), fun l hl => Got.lst R r hl⟩).v (one_of rfl fun a b l => by cases a <;> rfl)
theorem sortable_ok {l : List A} (h : sortable l = true) (d : A.dataL l = true) : PySem.W.AllAlike (l.map A.py) ∧ PySem.W.Sortable (l.map A.py) := by
  unfold sortable at h
  simp only [Bool.and_eq_true, Bool.or_eq_true, List.all_eq_true] at h
  have dm : ∀ a ∈ l, a.data = true := by
    clear h
    induction l with
    | nil => exact fun _ h => nomatch h
    | cons x l ih =>
      simp only [A.dataL, Bool.and_eq_true] at d
      intro a ha
      rcases List.mem_cons.mp ha with rfl | ha
      · exact d.1
      · exact ih d.2 a ha
  refine ⟨?_, ?_⟩
  · intro p hp q hq
    obtain ⟨a, ha, rfl⟩ := List.mem_map.mp hp
    obtain ⟨b, hb, rfl⟩ := List.mem_map.mp hq
    exact py_alike a b (h.1 a ha b hb) ⟨dm a ha, dm b hb⟩
  · rcases h.2 with k | k
    · left
      intro p hp
      obtain ⟨a, ha, rfl⟩ := List.mem_map.mp hp
      have := k a ha
      match a, this with
      | .tup (x :: r), _ => exact ⟨x.py, A.pyL r, by simp [A.py, A.pyL]⟩
    · right
      intro p hp
      obtain ⟨a, ha, rfl⟩ := List.mem_map.mp hp
      have k1 := k a ha
      have k2 := dm a ha
      cases a with
      | non => cases k1
      | tup l => cases k1
      | bl _ => exact ⟨(fun z => nomatch z), fun _ z => nomatch z⟩
      | int _ => exact ⟨(fun z => nomatch z), fun _ z => nomatch z⟩
      | str _ => exact ⟨(fun z => nomatch z), fun _ z => nomatch z⟩
      | lst l => exact ⟨by simp [A.py], by simp [A.py]⟩
      | _ => simp [A.data] at k2
theorem dataLe_eq : PySem.W.dataLe false A.py = fun a b => !A.lt b a := by
  funext a b
  show (!lexLt itemOrd (PySem.W.keyToks b.py) (PySem.W.keyToks a.py)) = _
  rw [lexS_eq, py_toks, py_toks]
  rfl
theorem each_rp {Z} : ∀ {l : List A} {vs : List V} {us : List Value}, RpL N Z l vs → Vals vs us → PySem.W.EachIs (fun u a => ∃ v, RelV v u ∧ Rp N Z a v) us l
  | _, _, _, .nil, .nil => .nil
  | _, _, _, .cons a r, .cons b q => .cons ⟨_, b, a⟩ (each_rp r q)
theorem each_back {Z} : ∀ {l : List A} {us : List Value}, PySem.W.EachIs (fun u a => ∃ v, RelV v u ∧ Rp N Z a v) us l → ∃ vs, RpL N Z l vs ∧ Vals vs us
  | _, _, .nil => ⟨[], .nil, .nil⟩
  | _, _, .cons ⟨v, r, q⟩ e => let ⟨vs, h1, h2⟩ := each_back e; ⟨v :: vs, .cons q h1, .cons r h2⟩
theorem each_reads (F : Fit N X) {pins σ H s Z} (I : Inv X pins σ H s) (hz : Le Z H) : ∀ {l : List A} {vs : List V} {us : List Value}, RpL N Z l vs → Vals vs us → A.dataL l = true → PySem.W.EachIs (fun u a => ∃ as, Reads s.heap u a.py as) us l
  | _, _, _, .nil, .nil, _ => .nil
  | _, _, _, .cons a r, .cons b q, d => by
    simp only [A.dataL, Bool.and_eq_true] at d
    exact .cons (Rp.reads F I hz a b d.1) (each_reads F I hz r q d.2)
theorem depL_mem : ∀ {l : List A} {a : A}, a ∈ l → a.dep ≤ A.depL l
  | x :: l, a, h => by
    simp only [A.depL]
    rcases List.mem_cons.mp h with rfl | h
    · exact Nat.le_max_left _ _
    · exact Nat.le_trans (depL_mem h) (Nat.le_max_right _ _)
def gSorted : A → Option A
  | .lst l => if flat (.lst l) && sortable l then some (.lst (sortA l)) else none
  | _ => none
theorem c_sorted (F : Fit N X) : CV1 N X (.builtin "sorted") gSorted := by
  intro pins s σ Z c st H a v u y I R q rv e
  cases a <;> first | cases e | skip
  rename_i l
  simp only [gSorted] at e
  split at e
  · rename_i h
    cases e
    simp only [Bool.and_eq_true] at h
    obtain ⟨d, hdep⟩ := flat_ok h.1
    have d' : A.dataL l = true := by simpa [A.data] using d
    obtain ⟨hal, hk⟩ := sortable_ok h.2 d'
    obtain ⟨p, vs, rfl, h1, r⟩ := q
    cases rv
    obtain ⟨its, rr, p1, hz⟩ := F.list I h1
    have hl := rr.length
    have hl2 := r.length
    refine PySem.W.sorted_data (vs := its) (bs := l) (enc := A.py) (R := fun u a => ∃ v, RelV v u ∧ Rp N Z a v) p1.isList (each_rp r rr) (each_reads F I R.sub r rr d') hal hk (by rw [hl2]; exact hz) (fun b hb => ?_) fun out ho eo => ?_
    · have := depL_mem hb
      have := F.units
      simp only [A.dep] at hdep
      rw [py_dep]
      omega
    · rw [dataLe_eq] at eo
      obtain ⟨ws, k1, k2⟩ := each_back eo
      obtain ⟨ep, he⟩ := sortedAll_at s.heap its out.toArray
      have hlen : ws.length ≤ sizeLine := by rw [k2.length, ho, hl2]; exact hz
      obtain ⟨Z', x, R2, q2⟩ := Got.lst R k1 (p := s.heap.objs.size + 1) (I.hok.fresh (Nat.le_succ _))
      exact ⟨Z', _, .ref (s.heap.objs.size + 1), I.laid (t' := s.toks) (o := .lst ws) (fun _ _ => sortedAll_old) (Nat.le_succ _) ⟨hlen, out, ep, k2, he⟩, x, R2, rfl, q2⟩
  · cases e
theorem b_sorted (F : Fit N X) : CallV N X (.builtin "sorted") bSorted := (c_sorted F).v fun l y e => by
  unfold bSorted at e
  split at e
  · exact ⟨_, rfl, e⟩
  · cases e
end
end PV
end
section
set_option linter.all false
set_option Elab.async false
set_option maxRecDepth 100000
set_option maxHeartbeats 4000000
/-! PV10: places, slices, lists that change, isinstance, displays with stars. -/
namespace PV
open PySem PySem.Spec PyProof.Rows L2
section
variable {N : Nm} {O : Orc} {X : Cx}
theorem ixP_eq (n : Nat) (i : Int) : ixP n i = ixN n i := rfl
theorem getI_rp {Z} {l : List A} {vs : List V} (r : RpL N Z l vs) {i : Int} {a : A} (h : getI l i = some a) : ∃ v, atI vs i = some v ∧ Rp N Z a v := by
  unfold getI at h
  cases e : ixP l.length i with
  | none => rw [e] at h; cases h
  | some j =>
    rw [e] at h
    obtain ⟨v, h1, h2⟩ := r.get (i := j) h
    refine ⟨v, ?_, h2⟩
    unfold atI
    rw [← r.length, ← ixP_eq, e]
    exact h1
def IxV (N : Nm) (X : Cx) (f : A → A → Option A) : Prop := ∀ value slice pins s σ Z c st H a v u a' v' u' y, Inv X pins σ H s → RelH N Z c st H → Vw N Z H a v → RelV v u → Vw N Z H a' v' → RelV v' u' → f a a' = some y →
  subscripted slice false u u' = operate [u, u'] (getItem u u') → wpAny (model X.prog X.w) X.A (subscriptTail value slice u u') (PostV N X pins σ Z c st H y) X.xe s
theorem ixv_of {r : R2} {g : A → A → Option A} (ho : IxR X r)
    (h : ∀ Z c st H a v b u y, RelH N Z c st H → Vw N Z H a v → Vw N Z H b u → g a b = some y → r v u H (Got N Z c st H y)) : IxV N X g := by
  intro value slice pins s σ Z c st H a v u a' v' u' y I R q rv q' rv' e hs
  exact thn (ho value slice pins s σ H v v' u u' _ I rv rv' (h Z c st H a v a' v' y R q q' e) hs) fun w s' p => Got.post p
theorem x_seq (F : Fit N X) : IxV N X fIx := ixv_of ix_seq fun Z c st H a v b u y R q q' e => by
  cases a <;> cases b <;> first | cases e | skip
  · rename_i s i
    simp only [fIx] at e
    split at e
    · rename_i hz
      rw [str_of q, int_of q']
      cases e2 : getI s i with
      | none => rw [e2] at e; cases e
      | some c' =>
        rw [e2] at e
        cases e
        exact .inr (.inr ⟨_, _, _, rfl, rfl, by rw [S_len, sizeLine_eq]; exact hz, e2, Got.same R (.str [c'])⟩)
    · cases e
  · obtain ⟨p, vs, rfl, h1, r⟩ := Vw.tupq R.sub q
    rw [int_of q']
    obtain ⟨v, e1, r1⟩ := getI_rp r e
    exact .inr (.inl ⟨p, vs, _, v, rfl, rfl, F.sqT h1, e1, Got.same R r1⟩)
  · obtain ⟨p, vs, rfl, h1, r⟩ := q
    rw [int_of q']
    obtain ⟨v, e1, r1⟩ := getI_rp r e
    exact .inl ⟨p, vs, _, v, rfl, rfl, F.sqL h1, e1, Got.same R r1⟩
def plainIx : Expr → Bool
  | .Name .. => true
  | .Constant .. => true
  | .BinOp .. => true
  | .UnaryOp .. => true
  | .Call .. => true
  | .Subscript .. => true
  | .Attribute .. => true
  | _ => false
theorem plainIx_ok {b : Expr} (h : plainIx b = true) : PlainIx b := by
  cases b <;> first | exact fun _ _ => rfl | cases h
theorem snd_ix {f : A → A → Option A} {a b : Expr} {x y : Ex} {pos : Pos} (hf : IxV N X f) (hp : plainIx b = true) (ha : SndE N O X a x) (hb : SndE N O X b y) : SndE N O X (.Subscript a b pos) (eOp2 f x y) := by
  intro Y tk env st σ Z c H R E Q h pins s I
  refine Subscript_ (bin (WE.pe X a) (WE.pe X b) I (two ha hb tk R E h (T := fun v v' H2 => ∃ w u st2 Z2 c2, RelH N Z2 c2 st2 H2 ∧ RpW N Z2 c2 w v ∧ RpW N Z2 c2 u v' ∧ Outc N Y σ Z2 c2 H2 (op2 f w u st2) fun w Z' c' H' => ∀ v, RpW N Z' c' w v → Q v H') fun w u st2 Z2 c2 H2 v v' _ R2 r1 r2 q => ⟨w, u, st2, Z2, c2, R2, r1, r2, q⟩) ?_)
  rintro v u s2 xv yv H2 I2 rx ry ⟨w1, w2, st2, Z2, c2, R2, r1, r2, q⟩
  obtain ⟨a1, a2, r, e1, e2, e3, q⟩ := op2_ok q
  exact thn (hf a b pins s2 σ Z2 c2 st2 H2 a1 xv v a2 yv u r I2 R2 (vw_ok R2 r1 e1) rx (vw_ok R2 r2 e2) ry e3 (plainIx_ok hp _ _)) fun res s3 p => p.ep q

/-! ### slices -/
theorem clip_eq (n d : Nat) (o : Option Int) : clip n d o = HT.sIx n d o := by cases o <;> rfl
theorem RpL.cut {Z} {l : List A} {vs : List V} (r : RpL N Z l vs) (lo hi : Option Int) : RpL N Z (cutA l lo hi) (cutV vs lo hi) := by
  unfold cutA cutV
  rw [← r.length, clip_eq, clip_eq]
  exact (r.drop _).take _
theorem S_cut (s : List Nat) (lo hi : Option Int) : S (cutA s lo hi) = cutS (S s) lo hi := by
  unfold cutA cutS S
  simp only [clip_eq]
  simp [PySem.Str.length]
theorem cut_all {l : List A} {lo hi : Option Int} (h : HT.sIx l.length 0 lo = 0 ∧ HT.sIx l.length l.length hi = l.length) : cutA l lo hi = l := by
  unfold cutA
  rw [clip_eq, clip_eq, h.1, h.2]
  simp
/-- the rule of a slice by values -/
theorem sl_got (F : Fit N X) : ∃ r, SlR X r ∧ ∀ Z c st H a v lo hi y, RelH N Z c st H → Vw N Z H a v → fSl a lo hi = some y → ∀ Q : VK, (∀ v' H', Got N Z c st H y v' H' → Q v' H') → r v lo hi H Q := by
  refine ⟨_, (sl_list.or (sl_tupA.or sl_str)), fun Z c st H a v lo hi y R q e Q k => ?_⟩
  cases a <;> first | cases e | skip
  · rename_i s
    simp only [fSl] at e
    split at e
    · rename_i hz
      cases e
      rw [str_of q]
      refine .inr (.inr ⟨_, rfl, by rw [S_len, sizeLine_eq]; exact hz, ?_⟩)
      rw [← S_cut]
      exact k _ _ (Got.same R (.str _))
    · cases e
  · obtain ⟨p, vs, rfl, h1, r⟩ := Vw.tupq R.sub q
    refine .inr (.inl ⟨p, vs, rfl, F.sqT h1, fun hw => ?_, fun _ p hp => k _ _ (Got.tup R (r.cut lo hi) hp)⟩)
    rw [cut_all (by rw [r.length]; exact hw)] at k
    exact k _ _ (Got.same R q)
  · obtain ⟨p, vs, rfl, h1, r⟩ := q
    exact .inl ⟨p, vs, rfl, F.sqL h1, fun p hp => k _ _ (Got.lst R (r.cut lo hi) hp)⟩
def SndO (N : Nm) (O : Orc) (X : Cx) : Option Expr → Option Ex → Prop
  | none, none => True
  | some e, some x => SndE N O X e x
  | _, _ => False
def tWish (Y : WX) (N : Nm) (O : Orc) (x : Option Ex) (env : Env) : TO := fun σ H Q => ∃ Z c st, RelH N Z c st H ∧ RelE N Z c env σ ∧ Outc N Y σ Z c H (partO x O env st) fun o Z' c' H' => Q o H'
theorem part_ok {e : Option Expr} {x : Option Ex} (h : SndO N O X e x) {Y : WX} (tk : Takes X Y) (env : Env) : PO X e (tWish Y N O x env) := by
  refine ⟨fun pins s σ H Q I hw => ?_⟩
  obtain ⟨Z, c, st, R, E, hw⟩ := hw
  match e, x, h with
  | none, none, _ =>
    rw [evalPart_none]
    exact wpAny_pure ⟨none, H, I, .none, hw.okk R⟩
  | some e, some x, h =>
    rw [evalPart_some]
    refine thn (h Y tk env st σ Z c H R E (fun v H1 => ∃ i : Int, v = .int i ∧ Q (some i) H1) (Outc.mono (show Outc N Y σ Z c H ((x O env st).bind _) _ from hw).bind (Ext.refl ..) fun w Z1 c1 H1 _ ⟨st1, R1, x1, h1⟩ v rv => ?_) pins s I) fun u s1 ⟨v, H1, I1, r1, i, e2, q⟩ => ?_
    · cases w with
      | v a =>
        cases a with
        | int i => cases rv; exact ⟨i, rfl, h1.okk R1⟩
        | _ => exact h1.elim
      | cel _ => exact h1.elim
      | lam _ _ => exact h1.elim
    · subst e2
      obtain ⟨t, rfl⟩ := r1
      exact ⟨some i, H1, I1, .int i t, q⟩
theorem snd_sl (F : Fit N X) {e : Expr} {lo hi : Option Expr} {x : Ex} {xl xh : Option Ex} {p2 pos : Pos} (he : SndE N O X e x) (hl : SndO N O X lo xl) (hh : SndO N O X hi xh) : SndE N O X (.Subscript e (.Slice lo hi none p2) pos) (eSl x xl xh) := by
  intro Y tk env st σ Z c H R E Q h
  obtain ⟨r, hr, hg⟩ := sl_got F
  refine WE.of (pe_slice hr (WE.pe X e) (part_ok hl tk env) (part_ok hh tk env)) ?_
  refine he Y tk env st σ Z c H R E _ (Outc.mono (show Outc N Y σ Z c H ((x O env st).bind _) _ from h).bind (Ext.refl ..) fun w Z1 c1 H1 _ ⟨st1, R1, x1, h1⟩ v rv => ?_)
  refine ⟨Z1, c1, st1, R1, E.mono x1, Outc.mono h1.bind (Ext.refl ..) fun l Z2 c2 H2 _ ⟨st2, R2, x2, h2⟩ => ?_⟩
  refine ⟨Z2, c2, st2, R2, (E.mono x1).mono x2, Outc.mono h2.bind (Ext.refl ..) fun u Z3 c3 H3 _ ⟨st3, R3, x3, h3⟩ => ?_⟩
  cases ev : vw st3 w with
  | none => rw [ev] at h3; exact h3.elim
  | some a =>
    rw [ev] at h3
    cases es : fSl a l u with
    | none => simp only [Option.bind_some, es] at h3; exact h3.elim
    | some y =>
      simp only [Option.bind_some, es] at h3
      exact hg Z3 c3 st3 H3 a v l u y R3 (vw_ok R3 ((rv.mono x2).mono x3) ev) es Q fun v' H' ⟨Z', xx, R', q⟩ => h3 Z' c3 H' xx R' v' q
theorem snd_rev (F : Fit N X) {e : Expr} {x : Ex} {k : Nat} {p1 p2 p3 pos : Pos} (he : SndE N O X e x) : SndE N O X (.Subscript e (.Slice none none (some (.UnaryOp .USub (.Constant (.int 1) k p1) p2)) p3) pos) (eOp1 fRev x) := by
  intro Y tk env st σ Z c H R E Q h
  refine WE.of (pe_revL (WE.pe X e)) ?_
  refine he Y tk env st σ Z c H R E _ (Outc.mono (show Outc N Y σ Z c H ((x O env st).bind _) _ from h).bind (Ext.refl ..) fun w Z1 c1 H1 _ ⟨st1, R1, x1, h1⟩ v rv => ?_)
  obtain ⟨a, r, e1, e2, q⟩ := op1_ok h1
  cases a <;> first | cases e2 | skip
  rename_i l
  obtain ⟨p, vs, rfl, h1, r⟩ := vw_ok R1 rv e1
  refine ⟨p, vs, rfl, F.sqL h1, fun p' hp' => ?_⟩
  obtain ⟨Z', xx, R', k⟩ := Got.lst R1 r.reverse hp'
  exact q Z' c1 _ xx R' _ k

/-! ### displays with stars -/
theorem snd_astar (F : Fit N X) {e : Expr} {es : List Expr} {x : Ex} {xs : Es} {p : Pos} (ha : SndE N O X e x) (hb : SndA N O X es xs) : SndA N O X (.Starred e p :: es) (esStar x xs) := by
  intro Y tk env st σ Z c H R E Q h
  refine WA.of (StX.pa_star (WE.pe X e) (WA.pa X es)) ?_
  refine ha Y tk env st σ Z c H R E _ (Outc.mono (show Outc N Y σ Z c H ((x O env st).bind _) _ from h).bind (Ext.refl ..) fun w Z1 c1 H1 _ ⟨st1, R1, x1, h1⟩ v rv => ?_)
  have h2 : ∃ m, ((vw st1 w).bind A.seq) = some m ∧ Outc N Y σ Z1 c1 H1 ((xs O env st1).bind fun l st3 => .ok (m.map PV.W.v ++ l) st3) fun l Z' c' H' => ∀ vs, RpWs N Z' c' l vs → Q vs H' := by
    cases e : (vw st1 w).bind A.seq with
    | none => rw [e] at h1; exact h1.elim
    | some m => rw [e] at h1; exact ⟨m, rfl, h1⟩
  obtain ⟨m, e, h2⟩ := h2
  cases ev : vw st1 w with
  | none => rw [ev] at e; cases e
  | some a =>
    rw [ev] at e
    have e : a.seq = some m := e
    have q := vw_ok R1 rv ev
    have fin : ∀ {vs : List V}, RpL N Z1 m vs → WA X es σ H1 fun ys H2 => Q (vs ++ ys) H2 := fun {vs} r =>
      hb Y tk env st1 σ Z1 c1 H1 R1 (E.mono x1) _ (Outc.mono h2.bind (Ext.refl ..) fun l Z2 c2 H2 _ ⟨st2, R2, x2, h3⟩ ys ry => h3.okk R2 (vs ++ ys) ((RpL.ws (r.mono x2.zz)).append ry))
    cases a <;> first | cases e | skip
    · obtain ⟨p, vs, rfl, h1, r⟩ := Vw.tupq R1.sub q
      exact ⟨p, vs, rfl, .inl (F.sqT h1), fin r⟩
    · obtain ⟨p, vs, rfl, h1, r⟩ := q
      exact ⟨p, vs, rfl, .inr (F.sqL h1), fin r⟩

/-! ### methods of lists that change -/
theorem mut_ok {f : List A → List A → Option (A × List A)} {w l st} {Y : WX} {σ Z c H} {Q : PV.W → Hp → List Addr → Hp → Prop} (h : Outc N Y σ Z c H (mutL f w l st) Q) :
    ∃ n m as a m', w = .cel n ∧ st[n]? = some (.lst m) ∧ vals l = some as ∧ f m as = some (a, m') ∧ m'.length ≤ Sz ∧ Outc N Y σ Z c H (Res.ok (W.v a) (st.set n (.lst m'))) Q := by
  unfold mutL at h
  cases w with
  | cel n =>
    simp only at h
    cases e : st[n]? with
    | none => rw [e] at h; exact h.elim
    | some C =>
      rw [e] at h
      cases C with
      | lst m =>
        simp only at h
        cases e2 : vals l with
        | none => rw [e2] at h; exact h.elim
        | some as =>
          rw [e2] at h
          simp only [Option.bind_some] at h
          cases e3 : f m as with
          | none => rw [e3] at h; exact h.elim
          | some p =>
            rw [e3] at h
            simp only at h
            by_cases hz : p.2.length ≤ Sz
            · rw [if_pos hz] at h
              exact ⟨n, m, as, p.1, p.2, rfl, e, rfl, e3, hz, h⟩
            · rw [if_neg hz] at h; exact h.elim
      | dct _ => exact h.elim
      | ins _ _ => exact h.elim
  | v _ => exact h.elim
  | lam _ _ => exact h.elim
/-- a method's rule: the list at p is rewritten -/
def MutV (N : Nm) (X : Cx) (id : String) (f : List A → List A → Option (A × List A)) : Prop := ∀ pins s σ Z H p m vs as us vl a m' (Q : VK), Inv X pins σ H s → Le Z H → H p = some (.lst vs) → RpL N Z m vs → RpL N Z as vl → Vals vl us → f m as = some (a, m') → m'.length ≤ Sz →
  (∀ v vs', RpL N Z m' vs' → Rp N Z a v → Q v (upd H p (.lst vs'))) → wpAny (model X.prog X.w) X.A (call (.builtin id) (.ref p :: us)) (EP X pins σ Q) X.xe s
theorem ls_is {pins σ H s p vs} (I : Inv X pins σ H s) (h : H p = some (.lst vs)) : s.TypeIs (.ref p) "list" ∧ ∀ a, Value.ref p = .ref a → ∃ ob, s.heap.get? a = some ob ∧ ob.dict = none := by
  obtain ⟨z, its, n, r, hl, e⟩ := I.lstM h
  exact ⟨⟨_, e, rfl⟩, fun a e2 => by cases e2; exact ⟨_, e, rfl⟩⟩
theorem few_ok {es : List Expr} (env : PySem.Env) (pos : Pos) (h : es.all (fun e => !isStar e) = true) (hl : es.length < 29) : ((backTo pos (starEach es env)).all (fun x => !x.1) && (backToKw pos (keywordEach [] env)).all (fun x => x.1.isSome)
      && decide (es.length + ([] : List Keyword).length + (if ([] : List Keyword).isEmpty then 0 else 1) < 30)) = true := by
  have h1 : (backTo pos (starEach es env)).all (fun x => !x.1) = true := by
    have := no_star env pos es h
    rw [List.all_eq_not_any_not]
    simp only [Bool.not_not, this]
    rfl
  rw [h1]
  have h2 : (backToKw pos (keywordEach [] env)).all (fun x => x.1.isSome) = true := rfl
  rw [h2]
  simp
  omega
theorem lc_is {Z c st H w v} (R : RelH N Z c st H) (r : RpW N Z c w v) (hi : isLc w st = true) : ∃ p vs, v = .ref p ∧ H p = some (.lst vs) := by
  unfold isLc at hi
  cases w with
  | cel n =>
    obtain ⟨p, hp, rfl⟩ := r
    dsimp only at hi
    cases e : st[n]? with
    | none => rw [e] at hi; cases hi
    | some C =>
      rw [e] at hi
      cases C with
      | lst m => obtain ⟨vs, h1, h2⟩ := R.cel n p _ hp e; exact ⟨p, vs, rfl, h1⟩
      | dct _ => cases hi
      | ins _ _ => cases hi
  | v _ => cases hi
  | lam _ _ => cases hi
theorem mut_fin {id : String} {f : List A → List A → Option (A × List A)} (hm : MutV N X id f) {Y : WX} {σ : Sl} {Q : VK} {pins} {p : Addr} {w : PV.W} {us : List Value} {s2 : Shared} {vl : List V} {H2 : Hp} {Z2 c2 st2 l} (I2 : Inv X pins σ H2 s2) (rv : Vals vl us) (R2 : RelH N Z2 c2 st2 H2) (rw2 : RpW N Z2 c2 w (.ref p)) (rl : RpWs N Z2 c2 l vl)
    (q2 : Outc N Y σ Z2 c2 H2 (mutL f w l st2) (fun w Z' c' H' => ∀ v, RpW N Z' c' w v → Q v H')) : wpAny (model X.prog X.w) X.A (call (.builtin id) (.ref p :: us)) (EP X pins σ Q) X.xe s2 := by
  obtain ⟨n, m, as, a, m', rfl, e1, e2, e3, hz, q2⟩ := mut_ok q2
  obtain ⟨p', hp', e4⟩ := rw2
  cases e4
  obtain ⟨vs2, k1, k2⟩ := R2.cel n p _ hp' e1
  refine hm pins s2 σ Z2 H2 p m vs2 as us vl a m' Q I2 R2.sub k1 k2 (vals_rp rl e2) rv e3 hz fun v vs' r1 r2 => ?_
  obtain ⟨xx, R3⟩ := ext_write (o := .lst vs') (C := .lst m') R2 hp' ⟨vs', upd_same, r1⟩
  exact q2 Z2 c2 _ xx R3 v r2
theorem snd_mut {name : PySem.Str} {id : String} {f : List A → List A → Option (A × List A)} {o e : Expr} {es : List Expr} {x : Ex} {xs : Es} {apos cpos : Pos} (F : Fit N X) (slot : Slot "list" name id) (hty : typeOf (.builtin id) = pure (.type "method_descriptor")) (hm : MutV N X id f)
    (hbase : attributeBase o name X.env (eval o X.env) = eval o X.env) (hline : (apos.endLine == cpos.line) = true) (hst : (e :: es).all (fun e => !isStar e) = true) (hl : (e :: es).length < 29) (ho : SndE N O X o x) (ha : SndA N O X (e :: es) xs) :
    SndE N O X (.Call (.Attribute o name apos) (e :: es) [] cpos) (eMut f x xs) := by
  intro Y tk env st σ Z c H R E Q h pins s I
  refine wpAny_Call_method_late hbase (few_ok _ _ hst hl) hline rfl (thn (ho Y tk env st σ Z c H R E (fun v H1 => ∃ Z1 c1 st1 w, RelH N Z1 c1 st1 H1 ∧ RelE N Z1 c1 env σ ∧ RpW N Z1 c1 w v ∧ Outc N Y σ Z1 c1 H1 (if isLc w st1 then (xs O env st1).bind fun l st2 => mutL f w l st2 else .bad) fun w Z' c' H' => ∀ v, RpW N Z' c' w v → Q v H')
    (Outc.mono (show Outc N Y σ Z c H ((x O env st).bind _) _ from h).bind (Ext.refl ..) fun w Z1 c1 H1 _ ⟨st1, R1, x1, h1⟩ v rv => ⟨Z1, c1, st1, w, R1, E.mono x1, rv, h1⟩) pins s I) ?_)
  rintro v s1 ⟨xv, H1, I1, rx, Z1, c1, st1, w, R1, E1, rw1, q⟩
  cases hi : isLc w st1 with
  | false => rw [hi] at q; exact q.elim
  | true =>
    rw [hi] at q
    simp only [if_true] at q
    obtain ⟨p, vs, rfl, hlst⟩ := lc_is R1 rw1 hi
    cases rx
    obtain ⟨h1, h2⟩ := ls_is I1 hlst
    refine ⟨"list", id, PySem.F.plainAttrs_list, slot, hty, h1, h2, ?_⟩
    have key : WA X (e :: es) σ H1 fun vs H2 => ∃ Z2 c2 st2 l, RelH N Z2 c2 st2 H2 ∧ RpW N Z2 c2 w (.ref p) ∧ RpWs N Z2 c2 l vs ∧ Outc N Y σ Z2 c2 H2 (mutL f w l st2) (fun w Z' c' H' => ∀ v, RpW N Z' c' w v → Q v H') :=
      ha Y tk env st1 σ Z1 c1 H1 R1 E1 _ (Outc.mono q.bind (Ext.refl ..) fun l Z2 c2 H2 _ ⟨st2, R2, x2, h2⟩ vs rvs => ⟨Z2, c2, st2, l, R2, rw1.mono x2, rvs, h2⟩)
    have hs := hst
    simp only [List.all_cons, Bool.and_eq_true, Bool.not_eq_true'] at hs
    have hA := key cpos pins s1 I1
    have he := star_no hs.1 es X.env
    have hpl := no_star X.env cpos es (by simpa using hs.2)
    rw [he] at hA ⊢
    refine Calls.callWith_builtin (by show (false || (backTo cpos (starEach es X.env)).any (·.1)) = false; rw [hpl]; rfl) (Calls.evalArgs_plain ?_)
    exact thn hA fun us s2 ⟨vs, H2, I2, r2, Z2, c2, st2, l, R2, rw2, rl, q2⟩ => mut_fin hm I2 r2 R2 rw2 rl q2
theorem snd_mut0 {name : PySem.Str} {id : String} {f : List A → List A → Option (A × List A)} {o : Expr} {x : Ex} {apos cpos : Pos} (F : Fit N X) (slot : Slot "list" name id) (hty : typeOf (.builtin id) = pure (.type "method_descriptor")) (hm : MutV N X id f)
    (hbase : attributeBase o name X.env (eval o X.env) = eval o X.env) (hline : (apos.endLine == cpos.line) = true) (ho : SndE N O X o x) : SndE N O X (.Call (.Attribute o name apos) [] [] cpos) (eMut f x esNil) := by
  intro Y tk env st σ Z c H R E Q h pins s I
  refine wpAny_Call_method0_late hbase hline (thn (ho Y tk env st σ Z c H R E (fun v H1 => ∃ Z1 c1 st1 w, RelH N Z1 c1 st1 H1 ∧ RpW N Z1 c1 w v ∧ Outc N Y σ Z1 c1 H1 (if isLc w st1 then mutL f w [] st1 else .bad) fun w Z' c' H' => ∀ v, RpW N Z' c' w v → Q v H')
    (Outc.mono (show Outc N Y σ Z c H ((x O env st).bind _) _ from h).bind (Ext.refl ..) fun w Z1 c1 H1 _ ⟨st1, R1, x1, h1⟩ v rv => ⟨Z1, c1, st1, w, R1, rv, h1⟩) pins s I) ?_)
  rintro v s1 ⟨xv, H1, I1, rx, Z1, c1, st1, w, R1, rw1, q⟩
  cases hi : isLc w st1 with
  | false => rw [hi] at q; exact q.elim
  | true =>
    rw [hi] at q
    simp only [if_true] at q
    obtain ⟨p, vs, rfl, hlst⟩ := lc_is R1 rw1 hi
    cases rx
    obtain ⟨h1, h2⟩ := ls_is I1 hlst
    exact ⟨"list", id, PySem.F.plainAttrs_list, slot, hty, h1, h2, Calls.callWith_builtin rfl (PySem.evalArgs_none (mut_fin hm I1 .nil R1 rw1 .nil q))⟩
theorem m_append (F : Fit N X) : MutV N X "list.append" mAppend := by
  intro pins s σ Z H p m vs as us vl a m' Q I hz h r rs rv e hl k
  unfold mAppend at e
  split at e
  · rename_i b
    cases e
    cases rs with
    | cons r1 rn =>
      cases rn
      refine mt_append pins s σ H (.ref p) _ _ us Q I rfl rv ⟨p, vs, _, rfl, rfl, h, by rw [← r.length, sizeLine_eq]; have hS : Sz = 16777216 := rfl; simp at hl; omega, k _ _ (r.append (.cons r1 .nil)) .non⟩
  · cases e

theorem m_pop (F : Fit N X) : MutV N X "list.pop" mPop := by
  intro pins s σ Z H p m vs as us vl a m' Q I hz h r rs rv e hl k
  unfold mPop at e
  split at e
  · cases rs
    cases e2 : m.getLast? with
    | none => rw [e2] at e; cases e
    | some b =>
      rw [e2] at e
      cases e
      have hlen := r.length
      rw [List.getLast?_eq_getElem?] at e2
      obtain ⟨v, h1, h2⟩ := r.get e2
      refine mt_pop pins s σ H (.ref p) _ _ us Q I rfl rv ⟨p, vs, v, rfl, rfl, h, by rw [← hlen]; exact h1, ?_⟩
      refine k _ _ ?_ h2
      rw [List.dropLast_eq_take, List.dropLast_eq_take, ← hlen]
      exact r.take _
  · cases e

/-! ### o[i] = e -/
theorem snd_sub (F : Fit N X) {o i e : Expr} {x k y : Ex} {tpos pos : Pos} (hc : isComp e = false) (htx : isTupX e = false) (ho : SndE N O X o x) (hi : SndE N O X i k) (he : SndE N O X e y)
    (ha : ∀ v, assign (.Subscript o i tpos) X.env v = (do
      let ov ← holding [v] (eval o X.env)
      let iv ← holding [v, ov] (eval i X.env)
      standAt tpos
      holding [v, ov, iv] (setItem ov iv v)
      release [v, ov, iv] [])) : SndS N O X (.Assign [.Subscript o i tpos] e pos) (sSub x k y) := by
  intro Y tk env st σ Z c H R E D h
  refine WS.of (ps_asg (WE.pe X e) (pg_sub (WE.pe X o) (WE.pe X i) set_list ha) (by unfold swapsWithSole; exact swaps_no hc _ _ _) (swapped_no htx _) (by rfl)) ?_
  refine he Y tk env st σ Z c H R E _ (Outc.mono (OutS.to E h) (Ext.refl ..) fun w Z1 c1 H1 _ ⟨st1, R1, x1, h1⟩ v rv => ?_)
  refine ho Y tk env st1 σ Z1 c1 H1 R1 (E.mono x1) _ (Outc.mono (OutS.to (E.mono x1) h1) (Ext.refl ..) fun u Z2 c2 H2 _ ⟨st2, R2, x2, h2⟩ v2 rv2 => ?_)
  have E2 := (E.mono x1).mono x2
  refine hi Y tk env st2 σ Z2 c2 H2 R2 E2 _ (Outc.mono (OutS.to E2 h2) (Ext.refl ..) fun t Z3 c3 H3 _ ⟨st3, R3, x3, h3⟩ v3 rv3 => ?_)
  have rv' := (rv.mono x2).mono x3
  have rv2' := rv2.mono x3
  cases u with
  | cel n =>
    cases t with
    | v a =>
      cases a with
      | int j =>
        cases w with
        | v b =>
          dsimp only at h3
          cases e1 : st3[n]? with
          | none => rw [e1] at h3; exact h3.elim
          | some C =>
            rw [e1] at h3
            cases C with
            | lst m =>
              dsimp only at h3
              cases e2 : setI m j b with
              | none => rw [e2] at h3; exact h3.elim
              | some m' =>
                rw [e2] at h3
                obtain ⟨p, hp, rfl⟩ := rv2'
                obtain ⟨vs, k1, k2⟩ := R3.cel n p _ hp e1
                unfold setI at e2
                cases e3 : ixP m.length j with
                | none => rw [e3] at e2; cases e2
                | some i0 =>
                  rw [e3] at e2
                  cases e2
                  cases rv3
                  refine ⟨p, vs, j, i0, rfl, rfl, k1, by rw [← k2.length, ← ixP_eq]; exact e3, ?_⟩
                  obtain ⟨xx, R4⟩ := ext_write (o := .lst (vs.set i0 v)) (C := .lst (m.set i0 b)) R3 hp ⟨_, upd_same, k2.set rv' i0⟩
                  exact h3 Z3 c3 _ σ xx R4 (((E.mono x1).mono x2).mono x3 |>.mono xx)
            | dct _ => exact h3.elim
            | ins _ _ => exact h3.elim
        | cel _ => exact h3.elim
        | lam _ _ => exact h3.elim
      | _ => exact h3.elim
    | cel _ => exact h3.elim
    | lam _ _ => exact h3.elim
  | v _ => exact h3.elim
  | lam _ _ => exact h3.elim
theorem snd_sbad {t : Stmt} : SndS N O X t sBad := fun Y tk env st σ Z c H R E D h => h.elim
theorem snd_ebad {e : Expr} : SndE N O X e eBad := fun Y tk env st σ Z c H R E Q h => h.elim

/-! ### a op b op c -/
theorem bool_ok {Y : WX} {σ Z c H} {w : PV.W} {st : Sto} {v : V} {Q : Bool → Hp → List Addr → Hp → Prop} (R : RelH N Z c st H) (h : Outc N Y σ Z c H (boolW w st) Q) (r : RpW N Z c w v) : ∃ k, v = .bl k ∧ w = .v (.bl k) ∧ Q k Z c H := by
  unfold boolW at h
  cases w with
  | v a =>
    cases a with
    | bl k => cases r; exact ⟨k, rfl, rfl, h.okk R⟩
    | _ => exact h.elim
  | cel _ => exact h.elim
  | lam _ _ => exact h.elim
/-- an operation whose result is read as a truth -/
theorem val2_bool {op : CmpOp} {f : A → A → Option A} (hf : Val2 N X (compareOp op) f) {Y : WX} {pins s σ Z c H st w u v v' x y} {Q : Bool → Hp → List Addr → Hp → Prop} {β : Prop} (I : Inv X pins σ H s) (R : RelH N Z c st H) (r1 : RpW N Z c w v) (r2 : RpW N Z c u v') (rx : RelV v x) (ry : RelV v' y) (h : Outc N Y σ Z c H ((op2 f w u st).bind boolW) Q) :
    wpAny (model X.prog X.w) X.A (compareOp op x y) (fun res s' => ∃ k Z' H' st', res = .bool k ∧ Inv X pins σ H' s' ∧ Ext Z c H Z' c H' ∧ RelH N Z' c st' H' ∧ Q k Z' c H') X.xe s := by
  obtain ⟨a1, a2, r, e1, e2, e3, q⟩ := op2_ok h.bind
  refine thn (hf pins s σ Z c st H a1 v x a2 v' y r I R (vw_ok R r1 e1) rx (vw_ok R r2 e2) ry e3) ?_
  rintro res s3 ⟨Z3, H3, v3, I3, x3, R3, rv3, q3⟩
  obtain ⟨st4, R4, _, q4⟩ := q Z3 c H3 x3 R3
  obtain ⟨k, ek, _, q5⟩ := bool_ok R4 q4 (show RpW N Z3 c (.v r) v3 from q3)
  subst ek
  cases rv3
  exact ⟨k, Z3, H3, st4, rfl, I3, x3, R4, q5⟩
theorem snd_tchain (F : Fit N X) {op op' : CmpOp} {f g : A → A → Option A} {a b d : Expr} {x y z : Ex} {pos : Pos} (hf : Val2 N X (compareOp op) f) (hg : Val2 N X (compareOp op') g) (hm : lastMarks [op, op'] [b, d] = false) (ha : SndE N O X a x) (hb : SndE N O X b y) (hd : SndE N O X d z) :
    SndT N O X (.Compare a [op, op'] [b, d] pos) (PV.tChain f g x y z) := by
  intro Y tk env st σ Z c H R E Q h pins s I
  have h1 := Outc.bind (show Outc N Y σ Z c H ((x O env st).bind _) _ from h)
  refine isTrue_chain (thn (ha Y tk env st σ Z c H R E (fun v H1 => ∃ Z1 c1 st1 w, Ext Z c H Z1 c1 H1 ∧ RelH N Z1 c1 st1 H1 ∧ RpW N Z1 c1 w v ∧ Outc N Y σ Z1 c1 H1 ((y O env st1).bind fun u st2 => (op2 f w u st2).bind fun r st3 => (boolW r st3).bind fun k st4 => if k then (z O env st4).bind fun t st5 => (op2 g u t st5).bind boolW else .ok false st4) fun b _ _ H' => Q b H')
    (Outc.mono h1 (Ext.refl ..) fun w Z1 c1 H1 _ ⟨st1, R1, x1, q⟩ v rv => ⟨Z1, c1, st1, w, x1, R1, rv, q⟩) pins s I) ?_) hm
  rintro v s1 ⟨xv, H1, I1, rx, Z1, c1, st1, w, x1, R1, rw1, q⟩
  refine test_link (thn (hb Y tk env st1 σ Z1 c1 H1 R1 (E.mono x1) (fun v' H2 => ∃ Z2 c2 st2 u, Ext Z c H Z2 c2 H2 ∧ RelH N Z2 c2 st2 H2 ∧ RpW N Z2 c2 w xv ∧ RpW N Z2 c2 u v' ∧ Outc N Y σ Z2 c2 H2 ((op2 f w u st2).bind fun r st3 => (boolW r st3).bind fun k st4 => if k then (z O env st4).bind fun t st5 => (op2 g u t st5).bind boolW else .ok false st4) fun b _ _ H' => Q b H')
    (Outc.mono q.bind (Ext.refl ..) fun u Z2 c2 H2 _ ⟨st2, R2, x2, q2⟩ v' rv' => ⟨Z2, c2, st2, u, x1.trans x2, R2, rw1.mono x2, rv', q2⟩) pins s1 I1) ?_)
  rintro v' s2 ⟨yv, H2, I2, ry, Z2, c2, st2, u, x2, R2, rw2, ru, q2⟩
  have q3 : Outc N Y σ Z2 c2 H2 (((op2 f w u st2).bind boolW).bind fun k st4 => if k then (z O env st4).bind fun t st5 => (op2 g u t st5).bind boolW else .ok false st4) fun b _ _ H' => Q b H' := by
    cases e : op2 f w u st2 with
    | ok r st3 => rw [e] at q2; exact q2
    | exc _ _ _ => rw [e] at q2; exact q2
    | bad => rw [e] at q2; exact q2.elim
  refine thn (val2_bool (β := True) hf I2 R2 rw2 ru rx ry q3.bind) ?_
  rintro res s3 ⟨k, Z3, H3, st3, rfl, I3, x3, R3, st4, R4, x4, q4⟩
  refine wpAny_truthy_bool ?_
  cases k with
  | false => exact ite_ff ⟨H3, I3, q4.okk R4⟩
  | true =>
    simp only [if_true] at q4
    refine ite_tt (test_last (thn (hd Y tk env st4 σ Z3 c2 H3 R4 (E.mono (x2.trans x3)) (fun v'' H5 => ∃ Z5 c5 st5 t, RelH N Z5 c5 st5 H5 ∧ RpW N Z5 c5 u yv ∧ RpW N Z5 c5 t v'' ∧ Outc N Y σ Z5 c5 H5 ((op2 g u t st5).bind boolW) fun b _ _ H' => Q b H')
      (Outc.mono q4.bind (Ext.refl ..) fun t Z5 c5 H5 _ ⟨st5, R5, x5, q5⟩ v'' rv'' => ⟨Z5, c5, st5, t, R5, (ru.mono x3).mono x5, rv'', q5⟩) pins s3 I3) ?_))
    rintro v'' s4 ⟨zv, H5, I5, rz, Z5, c5, st5, t, R5, ru5, rt5, q5⟩
    refine thn (val2_bool (β := True) hg I5 R5 ru5 rt5 ry rz q5) ?_
    rintro res s6 ⟨k2, Z6, H6, st6, rfl, I6, x6, R6, q6⟩
    exact wpAny_truthy_bool ⟨H6, I6, q6⟩
theorem snd_echain (F : Fit N X) {op op' : CmpOp} {f g : A → A → Option A} {a b d : Expr} {x y z : Ex} {pos : Pos} (hf : Val2 N X (compareOp op) f) (hg : Val2 N X (compareOp op') g) (hm : lastMarks [op, op'] [b, d] = false) (ha : SndE N O X a x) (hb : SndE N O X b y) (hd : SndE N O X d z) :
    SndE N O X (.Compare a [op, op'] [b, d] pos) (eTest (PV.tChain f g x y z)) := by
  intro Y tk env st σ Z c H R E Q h0 pins s I
  have h : Outc N Y σ Z c H (PV.tChain f g x y z O env st) fun b Z' c' H' => ∃ st1, RelH N Z' c' st1 H' ∧ Q (.bl b) H' := Outc.mono (Outc.bind (show Outc N Y σ Z c H ((PV.tChain f g x y z O env st).bind _) _ from h0)) (Ext.refl ..) fun b Z1 c1 H1 _ ⟨st1, R1, x1, q⟩ => ⟨st1, R1, q.okk R1 _ (.bl b)⟩
  have h1 := Outc.bind (show Outc N Y σ Z c H ((x O env st).bind _) _ from h)
  refine Compare_chain (thn (ha Y tk env st σ Z c H R E (fun v H1 => ∃ Z1 c1 st1 w, Ext Z c H Z1 c1 H1 ∧ RelH N Z1 c1 st1 H1 ∧ RpW N Z1 c1 w v ∧ Outc N Y σ Z1 c1 H1 ((y O env st1).bind fun u st2 => (op2 f w u st2).bind fun r st3 => (boolW r st3).bind fun k st4 => if k then (z O env st4).bind fun t st5 => (op2 g u t st5).bind boolW else .ok false st4) fun b Z' c' H' => ∃ st1, RelH N Z' c' st1 H' ∧ Q (.bl b) H')
    (Outc.mono h1 (Ext.refl ..) fun w Z1 c1 H1 _ ⟨st1, R1, x1, q⟩ v rv => ⟨Z1, c1, st1, w, x1, R1, rv, q⟩) pins s I) ?_) hm
  rintro v s1 ⟨xv, H1, I1, rx, Z1, c1, st1, w, x1, R1, rw1, q⟩
  refine chain_link (thn (hb Y tk env st1 σ Z1 c1 H1 R1 (E.mono x1) (fun v' H2 => ∃ Z2 c2 st2 u, Ext Z c H Z2 c2 H2 ∧ RelH N Z2 c2 st2 H2 ∧ RpW N Z2 c2 w xv ∧ RpW N Z2 c2 u v' ∧ Outc N Y σ Z2 c2 H2 ((op2 f w u st2).bind fun r st3 => (boolW r st3).bind fun k st4 => if k then (z O env st4).bind fun t st5 => (op2 g u t st5).bind boolW else .ok false st4) fun b Z' c' H' => ∃ st1, RelH N Z' c' st1 H' ∧ Q (.bl b) H')
    (Outc.mono q.bind (Ext.refl ..) fun u Z2 c2 H2 _ ⟨st2, R2, x2, q2⟩ v' rv' => ⟨Z2, c2, st2, u, x1.trans x2, R2, rw1.mono x2, rv', q2⟩) pins s1 I1) ?_)
  rintro v' s2 ⟨yv, H2, I2, ry, Z2, c2, st2, u, x2, R2, rw2, ru, q2⟩
  have q3 : Outc N Y σ Z2 c2 H2 (((op2 f w u st2).bind boolW).bind fun k st4 => if k then (z O env st4).bind fun t st5 => (op2 g u t st5).bind boolW else .ok false st4) fun b Z' c' H' => ∃ st1, RelH N Z' c' st1 H' ∧ Q (.bl b) H' := by
    cases e : op2 f w u st2 with
    | ok r st3 => rw [e] at q2; exact q2
    | exc _ _ _ => rw [e] at q2; exact q2
    | bad => rw [e] at q2; exact q2.elim
  refine thn (val2_bool (β := True) hf I2 R2 rw2 ru rx ry q3.bind) ?_
  rintro res s3 ⟨k, Z3, H3, st3, rfl, I3, x3, R3, st4, R4, x4, q4⟩
  refine wpAny_truthy_bool ?_
  cases k with
  | false =>
    obtain ⟨_, _, q5⟩ := q4.okk R4
    exact ite_ff ⟨.bl false, H3, I3, rfl, q5⟩
  | true =>
    simp only [if_true] at q4
    refine ite_tt (chain_last (thn (hd Y tk env st4 σ Z3 c2 H3 R4 (E.mono (x2.trans x3)) (fun v'' H5 => ∃ Z5 c5 st5 t, RelH N Z5 c5 st5 H5 ∧ RpW N Z5 c5 u yv ∧ RpW N Z5 c5 t v'' ∧ Outc N Y σ Z5 c5 H5 ((op2 g u t st5).bind boolW) fun b Z' c' H' => ∃ st1, RelH N Z' c' st1 H' ∧ Q (.bl b) H')
      (Outc.mono q4.bind (Ext.refl ..) fun t Z5 c5 H5 _ ⟨st5, R5, x5, q5⟩ v'' rv'' => ⟨Z5, c5, st5, t, R5, (ru.mono x3).mono x5, rv'', q5⟩) pins s3 I3) ?_))
    rintro v'' s4 ⟨zv, H5, I5, rz, Z5, c5, st5, t, R5, ru5, rt5, q5⟩
    refine thn (val2_bool (β := True) hg I5 R5 ru5 rt5 ry rz q5) ?_
    rintro res s6 ⟨k2, Z6, H6, st6, rfl, I6, x6, R6, _, _, q6⟩
    exact ⟨.bl k2, H6, I6, rfl, q6⟩
end
end PV
end
section
set_option linter.all false
set_option Elab.async false
set_option maxRecDepth 100000
set_option maxHeartbeats 4000000
/-! PV11: isinstance. -/
namespace PV
open PySem PySem.Spec PyProof.Rows L2
section
variable {N : Nm} {O : Orc} {X : Cx}
def tyS : Nat → String
  | 0 => "NoneType"
  | 1 => "bool"
  | 2 => "int"
  | 3 => "str"
  | 4 => "tuple"
  | 5 => "list"
  | 6 => "dict"
  | 7 => "set"
  | _ => "type"
/-- what isinstance needs of a class -/
structure OwnC (K : PySem.W.Frag) (C : Addr) : Prop where
  get : PySem.W.plainGet K C "__class__" = true
  hd : PySem.W.hasDictIn K C = true
  ha : PySem.W.findIn K (.ref C) "__class__" = some (some (.builtin "object.__class__"))
  hn : PySem.W.specialIn K (.builtin "object.__class__") "__get__" = some (some (.builtin "getset_descriptor.__get__"))
  htk : PySem.W.takesIn K (.builtin "object.__class__") = some true
  hm : PySem.W.mroIn K C (.type "object") = some true
/-- the classes that are known, and what stands below what -/
structure IsiOk (N : Nm) (ck : Nat → Bool) (sub : Nat → Nat → Option Bool) : Prop where
  ty : N.tyn = tyS
  own : ∀ d, ck d = true → OwnC N.K (N.cad d)
  sub : ∀ d c b, sub d c = some b → ck d = true ∧ PySem.W.kitOne N.K (.ref (N.cad d)) (.ref (N.cad c)) = some b
  ot : ∀ d n, ck d = true → 1 ≤ n → n ≤ 6 → PySem.W.kitOne N.K (.ref (N.cad d)) (.type (tyS n)) = some false
  to : ∀ n c, ck c = true → n ≤ 6 → PySem.W.kitOne N.K (.type (tyS n)) (.ref (N.cad c)) = some false
theorem kit_tt {K : PySem.W.Frag} : ∀ a b : Nat, a ≤ 6 → 1 ≤ b → b ≤ 6 → PySem.W.kitOne K (.type (tyS a)) (.type (tyS b)) = some (tyLe a b) := by
  have h : ∀ a ∈ List.range 7, ∀ b ∈ List.range 7, b = 0 ∨ L2.kitB (tyS a) (tyS b) = some (tyLe a b) := by decide +kernel
  intro a b ha hb hb'
  rcases h a (by simp; omega) b (by simp; omega) with e | e
  · omega
  · exact L2.kit_ty e
/-- a value's type as a value -/
def tagV (N : Nm) : A → Option Value
  | .ins d _ => some (.ref (N.cad d))
  | a => a.tag.map fun n => .type (tyS n)
theorem kit_vw (F : Fit N X) {ck sub} (K : IsiOk N ck sub) {pins σ H s Z c st a v u t} (I : Inv X pins σ H s) (R : RelH N Z c st H) (q : Vw N Z H a v) (rv : RelV v u) (ht : tagV N a = some t) (hd : ∀ d l, a = .ins d l → ck d = true) :
    ∃ P : Heap → Prop, PySem.W.KitX X.K u t P ∧ P s.heap ∧ u ≠ .builtin "__main__.__loader__#opaque" := by
  cases a <;> first | cases ht | skip
  · rw [non_of q] at rv; cases rv; exact ⟨_, PySem.W.kitx_none, True.intro, fun z => nomatch z⟩
  · rw [bl_of q] at rv; cases rv; exact ⟨_, PySem.W.kitx_bool, True.intro, fun z => nomatch z⟩
  · rw [int_of q] at rv; obtain ⟨t, rfl⟩ := rv; exact ⟨_, PySem.W.kitx_int, True.intro, fun z => nomatch z⟩
  · rw [str_of q] at rv; obtain ⟨t, rfl⟩ := rv; exact ⟨_, PySem.W.kitx_str, True.intro, fun z => nomatch z⟩
  · obtain ⟨p, vs, rfl, h1, r⟩ := Vw.tupq R.sub q
    cases rv
    obtain ⟨its, rr, ⟨o, ho, hc, _⟩, _⟩ := F.tuple I h1
    exact ⟨_, PySem.W.kitx_tuple, ⟨o, ho, hc⟩, fun z => nomatch z⟩
  · obtain ⟨p, vs, rfl, h1, r⟩ := q
    cases rv
    obtain ⟨its, rr, ⟨o, n, ho, hc, _⟩, _⟩ := F.list I h1
    exact ⟨_, PySem.W.kitx_list, ⟨o, ho, hc⟩, fun z => nomatch z⟩
  · obtain ⟨p, es, ep, rfl, h1, r⟩ := q
    cases rv
    exact ⟨_, PySem.W.kitx_dict, (dO_raw I h1).typeIs, fun z => nomatch z⟩
  · rename_i d l
    have hk := hd d l rfl
    cases (show Rp N Z (.ins d l) v from q) with
    | @ins _ _ p dx fs h1 h2 =>
      cases rv
      have o := K.own d hk
      obtain ⟨mA, O, _⟩ := ins_get I.hok (R.sub _ _ h1)
      obtain ⟨od, J, _⟩ := O.look
      rw [F.K]
      exact ⟨_, PySem.W.kitx_own o.get o.hd o.ha o.hn o.htk o.hm, J, fun z => nomatch z⟩
/-- a class as a value -/
def clsV (N : Nm) : A → Option Value
  | .ty n => some (.type (N.tyn n))
  | .cls c => some (.ref (N.cad c))
  | _ => none
theorem cls_rp {Z t cv v u} (h : clsV N t = some cv) (q : Rp N Z t v) (r : RelV v u) : u = cv := by
  cases t <;> first | cases h | skip
  · cases q; exact r
  · cases q; exact r
theorem tag_le {a : A} {n : Nat} (h : a.tag = some n) : n ≤ 6 := by
  cases a <;> first | cases h | skip
  all_goals decide
theorem isi1_ok {ck sub} (K : IsiOk N ck sub) {x t : A} {b : Bool} (h : isi1 ck sub x t = some b) : ∃ tv, tagV N x = some tv ∧ (∀ d l, x = .ins d l → ck d = true) ∧ ∃ cv, clsV N t = some cv ∧ PySem.W.kitOne N.K tv cv = some b := by
  have plain : ∀ (x : A), (∀ d l, x ≠ .ins d l) → isi0 ck x.tag t = some b → tagV N x = x.tag.map (fun n => .type (tyS n)) → ∃ tv, tagV N x = some tv ∧ (∀ d l, x = .ins d l → ck d = true) ∧ ∃ cv, clsV N t = some cv ∧ PySem.W.kitOne N.K tv cv = some b := by
    clear h x
    intro x hx h ht
    cases e : x.tag with
    | none => rw [e] at h; cases h
    | some a =>
      rw [e] at h ht
      have ha := tag_le e
      refine ⟨_, ht, fun d l e => absurd e (hx d l), ?_⟩
      cases t <;> first | cases h | skip
      · rename_i c
        dsimp only [isi0] at h
        split at h
        · rename_i hc; cases h; exact ⟨_, rfl, K.to a c hc ha⟩
        · cases h
      · rename_i n
        dsimp only [isi0] at h
        split at h
        · rename_i hn
          cases h
          simp only [Bool.and_eq_true, decide_eq_true_eq] at hn
          refine ⟨_, rfl, ?_⟩
          rw [K.ty]
          exact kit_tt a n ha hn.1 hn.2
        · cases h
  cases x with
  | ins d l =>
    cases t <;> first | cases h | skip
    · rename_i c
      obtain ⟨h1, h2⟩ := K.sub d c b h
      exact ⟨_, rfl, fun d' l' e => by cases e; exact h1, _, rfl, h2⟩
    · rename_i n
      simp only [isi1] at h
      split at h
      · rename_i hn
        cases h
        simp only [Bool.and_eq_true, decide_eq_true_eq] at hn
        refine ⟨_, rfl, fun d' l' e => by cases e; exact hn.2, _, rfl, ?_⟩
        rw [K.ty]
        exact K.ot d n hn.2 hn.1.1 hn.1.2
      · cases h
  | _ => exact plain _ (fun d l e => nomatch e) h rfl
theorem isiL_ok {ck sub} (K : IsiOk N ck sub) {x : A} {tv : Value} (ht : tagV N x = some tv) : ∀ {ts : List A} {b : Bool}, isiL ck sub x ts = some b → ∀ {Z vs us}, RpL N Z ts vs → Vals vs us → PySem.W.kitAny N.K tv us = some b
  | [], b, h, _, _, _, .nil, .nil => by cases h; rfl
  | t :: ts, b, h, _, _, _, .cons q r, .cons rv rr => by
    simp only [isiL] at h
    cases e : isi1 ck sub x t with
    | none => rw [e] at h; cases h
    | some b1 =>
      obtain ⟨tv', h1, h2, cv, h3, h4⟩ := isi1_ok K e
      rw [ht] at h1
      cases h1
      rw [cls_rp h3 q rv]
      rw [e] at h
      cases b1 with
      | true => cases h; exact L2.kitAny_cons h4 (fun z => nomatch z) fun _ => rfl
      | false => exact L2.kitAny_cons h4 (fun _ => isiL_ok K ht h r rr) fun z => nomatch z
theorem isiL_hd {ck sub} {x t : A} {ts : List A} {b : Bool} (h : isiL ck sub x (t :: ts) = some b) : ∃ b1, isi1 ck sub x t = some b1 := by
  simp only [isiL] at h
  cases e : isi1 ck sub x t with
  | none => rw [e] at h; cases h
  | some b1 => exact ⟨b1, rfl⟩
theorem b_isi (F : Fit N X) {ck sub} (K : IsiOk N ck sub) : CallV N X (.builtin "isinstance") (bIsi ck sub) := by
  intro pins s σ Z c st H l vs us y I R q rv e
  unfold bIsi at e
  split at e
  · rename_i x t ts
    cases e2 : isiL ck sub x (t :: ts) with
    | none => rw [e2] at e; cases e
    | some b =>
      rw [e2] at e
      cases e
      obtain ⟨b1, e3⟩ := isiL_hd e2
      obtain ⟨tv, h1, h2, _⟩ := isi1_ok K e3
      cases q with
      | cons q1 qr =>
        cases qr with
        | cons q2 qr =>
          cases qr
          cases rv with
          | cons r1 rr =>
            cases rr with
            | cons r2 rr =>
              cases rr
              obtain ⟨P, Z1, p, hx⟩ := kit_vw F K I R q1 r1 h1 h2
              obtain ⟨tp, cs, rfl, hT, rl⟩ := Vw.tupq R.sub q2
              cases r2
              obtain ⟨its, rr, ⟨⟨oc, od, dt, sl⟩, ho, hc, n, hd⟩, _⟩ := F.tuple I hT
              simp only at hc hd
              subst hc hd
              have k := isiL_ok K h1 e2 rl rr
              rw [← F.K] at k
              exact PySem.W.kia_tup Z1 I.kIn p ho k hx fun tk => PostV.same (v := .bl b) (I.tok tk) R rfl (.bl _)
  · rename_i x t _
    cases e2 : isi1 ck sub x t with
    | none => rw [e2] at e; cases e
    | some b =>
      rw [e2] at e
      cases e
      obtain ⟨tv, h1, h2, cv, h3, h4⟩ := isi1_ok K e2
      cases q with
      | cons q1 qr =>
        cases qr with
        | cons q2 qr =>
          cases qr
          cases rv with
          | cons r1 rr =>
            cases rr with
            | cons r2 rr =>
              cases rr
              obtain ⟨P, Z1, p, hx⟩ := kit_vw F K I R q1 r1 h1 h2
              have h5 : _ = cv := cls_rp (Z := Z) h3 (by cases t <;> first | exact q2 | cases h3) r2
              rw [h5]
              rw [← F.K] at h4
              exact PySem.W.kia_one Z1 I.kIn p h4 hx fun tk => PostV.same (v := .bl b) (I.tok tk) R rfl (.bl _)
  · cases e
end
end PV
end
section
set_option linter.all false
set_option Elab.async false
set_option maxRecDepth 100000
set_option maxHeartbeats 4000000
/-! PV12: dicts whose keys are tuples; comprehensions of dicts. -/
namespace PV
open PySem PySem.Spec PyProof.Rows L2
section
variable {N : Nm} {O : Orc} {X : Cx}
theorem key_def (a : A) : A.key a = A.key.go a := rfl
mutual
theorem key_some : ∀ a : A, a.hk = true → ∃ k, A.key.go a = some k ∧ k.depth = a.dep
  | .non, _ => ⟨_, rfl, rfl⟩
  | .bl _, _ => ⟨_, rfl, rfl⟩
  | .int _, _ => ⟨_, rfl, rfl⟩
  | .str _, _ => ⟨_, rfl, rfl⟩
  | .tup l, h => by
    obtain ⟨k, h1, h2⟩ := keyL_some l (by simpa [A.hk] using h)
    exact ⟨.tup k, by simp [A.key.go, h1], by simp [NestedKey.depth, A.dep, h2]⟩
  | .lst _, h => by simp [A.hk] at h
  | .dct _, h => by simp [A.hk] at h
  | .set _, h => by simp [A.hk] at h
  | .ins _ _, h => by simp [A.hk] at h
  | .fn _, h => by simp [A.hk] at h
  | .cls _, h => by simp [A.hk] at h
  | .ty _, h => by simp [A.hk] at h
theorem keyL_some : ∀ l : List A, A.hkL l = true → ∃ k, A.key.goL l = some k ∧ NestedKey.depthAll k = A.depL l
  | [], _ => ⟨[], rfl, rfl⟩
  | a :: l, h => by
    simp only [A.hkL, Bool.and_eq_true] at h
    obtain ⟨k, h1, h2⟩ := key_some a h.1
    obtain ⟨m, h3, h4⟩ := keyL_some l h.2
    exact ⟨k :: m, by simp [A.key.goL, h1, h3], by simp [NestedKey.depthAll, A.depL, h2, h4]⟩
end
mutual
theorem key_hk : ∀ (a : A) (k : NestedKey), A.key.go a = some k → a.hk = true
  | .non, _, _ => rfl
  | .bl _, _, _ => rfl
  | .int _, _, _ => rfl
  | .str _, _, _ => rfl
  | .tup l, k, h => by
    simp only [A.key.go] at h
    cases e : A.key.goL l with
    | none => rw [e] at h; cases h
    | some m => simp only [A.hk]; exact keyL_hk l m e
  | .lst _, _, h => by simp [A.key.go] at h
  | .dct _, _, h => by simp [A.key.go] at h
  | .set _, _, h => by simp [A.key.go] at h
  | .ins _ _, _, h => by simp [A.key.go] at h
  | .fn _, _, h => by simp [A.key.go] at h
  | .cls _, _, h => by simp [A.key.go] at h
  | .ty _, _, h => by simp [A.key.go] at h
theorem keyL_hk : ∀ (l : List A) (k : List NestedKey), A.key.goL l = some k → A.hkL l = true
  | [], _, _ => rfl
  | a :: l, k, h => by
    simp only [A.key.goL] at h
    cases e : A.key.go a with
    | none => rw [e] at h; cases h
    | some x =>
      cases e2 : A.key.goL l with
      | none => rw [e, e2] at h; cases h
      | some m => simp only [A.hkL, Bool.and_eq_true]; exact ⟨key_hk a x e, keyL_hk l m e2⟩
end
mutual
/-- keys are the same just where the values are equal -/
theorem key_eqv : ∀ (a b : A) (x y : NestedKey), A.key.go a = some x → A.key.go b = some y → NestedKey.beq x y = A.eqv a b
  | .non, b, x, y, h, k => by
    cases h
    cases b <;> first | (cases k; rfl) | (simp [A.key.go] at k; done) | skip
    rename_i l
    simp only [A.key.go] at k
    cases e : A.key.goL l with
    | none => rw [e] at k; cases k
    | some m => rw [e] at k; cases k; rfl
  | .bl c, b, x, y, h, k => by
    cases h
    cases b <;> first | (cases k; rfl) | (simp [A.key.go] at k; done) | skip
    · rename_i d
      cases k
      cases c <;> cases d <;> rfl
    · rename_i l
      simp only [A.key.go] at k
      cases e : A.key.goL l with
      | none => rw [e] at k; cases k
      | some m => rw [e] at k; cases k; rfl
  | .int i, b, x, y, h, k => by
    cases h
    cases b <;> first | (cases k; rfl) | (simp [A.key.go] at k; done) | skip
    rename_i l
    simp only [A.key.go] at k
    cases e : A.key.goL l with
    | none => rw [e] at k; cases k
    | some m => rw [e] at k; cases k; rfl
  | .str s, b, x, y, h, k => by
    cases h
    cases b <;> first | (cases k; first | rfl | exact S_beq _ _) | (simp [A.key.go] at k; done) | skip
    rename_i l
    simp only [A.key.go] at k
    cases e : A.key.goL l with
    | none => rw [e] at k; cases k
    | some m => rw [e] at k; cases k; rfl
  | .tup l, b, x, y, h, k => by
    simp only [A.key.go] at h
    cases e : A.key.goL l with
    | none => rw [e] at h; cases h
    | some m =>
      rw [e] at h
      cases h
      cases b <;> first | (cases k; rfl) | (simp [A.key.go] at k; done) | skip
      rename_i l2
      simp only [A.key.go] at k
      cases e2 : A.key.goL l2 with
      | none => rw [e2] at k; cases k
      | some m2 =>
        rw [e2] at k
        cases k
        exact keyL_eqv l l2 m m2 e e2
  | .lst _, _, _, _, h, _ => by simp [A.key.go] at h
  | .dct _, _, _, _, h, _ => by simp [A.key.go] at h
  | .set _, _, _, _, h, _ => by simp [A.key.go] at h
  | .ins _ _, _, _, _, h, _ => by simp [A.key.go] at h
  | .fn _, _, _, _, h, _ => by simp [A.key.go] at h
  | .cls _, _, _, _, h, _ => by simp [A.key.go] at h
  | .ty _, _, _, _, h, _ => by simp [A.key.go] at h
theorem keyL_eqv : ∀ (a b : List A) (x y : List NestedKey), A.key.goL a = some x → A.key.goL b = some y → NestedKey.beqAll x y = A.eqvL a b
  | [], [], _, _, h, k => by cases h; cases k; rfl
  | [], b :: m, _, y, h, k => by
    cases h
    simp only [A.key.goL] at k
    cases e : A.key.go b with
    | none => rw [e] at k; cases k
    | some x =>
      cases e2 : A.key.goL m with
      | none => rw [e, e2] at k; cases k
      | some m => rw [e, e2] at k; cases k; rfl
  | a :: l, [], x, _, h, k => by
    cases k
    simp only [A.key.goL] at h
    cases e : A.key.go a with
    | none => rw [e] at h; cases h
    | some x =>
      cases e2 : A.key.goL l with
      | none => rw [e, e2] at h; cases h
      | some m => rw [e, e2] at h; cases h; rfl
  | a :: l, b :: m, x, y, h, k => by
    simp only [A.key.goL] at h k
    cases e : A.key.go a with
    | none => rw [e] at h; cases h
    | some x1 =>
      cases e2 : A.key.goL l with
      | none => rw [e, e2] at h; cases h
      | some x2 =>
        rw [e, e2] at h
        cases h
        cases e3 : A.key.go b with
        | none => rw [e3] at k; cases k
        | some y1 =>
          cases e4 : A.key.goL m with
          | none => rw [e3, e4] at k; cases k
          | some y2 =>
            rw [e3, e4] at k
            cases k
            simp only [NestedKey.beqAll, A.eqvL, key_eqv a b x1 y1 e e3, keyL_eqv l m x2 y2 e2 e4]
end
mutual
theorem Rp.nest (F : Fit N X) {pins σ H s Z} (I : Inv X pins σ H s) (hz : Le Z H) : ∀ {a v u k}, Rp N Z a v → RelV v u → A.key.go a = some k → NestedIs s.heap k u
  | _, _, _, _, .non, r, h => by cases h; cases r; exact .none
  | _, _, _, _, .bl b, r, h => by cases h; cases r; exact .bool (by cases b <;> rfl)
  | _, _, _, _, .int i, r, h => by cases h; obtain ⟨t, rfl⟩ := r; exact .int i t
  | _, _, _, _, .str x, r, h => by cases h; obtain ⟨t, rfl⟩ := r; exact .text _ t
  | _, _, _, _, @Rp.tup _ _ l _ _ q rl, r, h => by
    simp only [A.key.go] at h
    cases e : A.key.goL l with
    | none => rw [e] at h; cases h
    | some m =>
      rw [e] at h
      cases h
      cases r
      obtain ⟨its, rv, ⟨o, ho, hc, n, hd⟩, _⟩ := F.tuple I (hz.sqT q)
      exact .tup ho hc hd (RpL.nest F I hz rl rv e)
  | _, _, _, _, .lst .., _, h => by simp [A.key.go] at h
  | _, _, _, _, .dct .., _, h => by simp [A.key.go] at h
  | _, _, _, _, .ins .., _, h => by simp [A.key.go] at h
  | _, _, _, _, .fn _, _, h => by simp [A.key.go] at h
  | _, _, _, _, .cls _, _, h => by simp [A.key.go] at h
  | _, _, _, _, .ty _, _, h => by simp [A.key.go] at h
theorem RpL.nest (F : Fit N X) {pins σ H s Z} (I : Inv X pins σ H s) (hz : Le Z H) : ∀ {l vs us k}, RpL N Z l vs → Vals vs us → A.key.goL l = some k → NestedAll s.heap k us
  | _, _, _, _, .nil, .nil, h => by cases h; exact .nil
  | _, _, _, _, @RpL.cons _ _ a _ l _ q r, .cons b t, h => by
    simp only [A.key.goL] at h
    cases e : A.key.go a with
    | none => rw [e] at h; cases h
    | some x1 =>
      cases e2 : A.key.goL l with
      | none => rw [e, e2] at h; cases h
      | some x2 =>
        rw [e, e2] at h
        cases h
        exact .cons (Rp.nest F I hz q b e) (RpL.nest F I hz r t e2)
end

/-- entries whose keys are tuples -/
inductive XR (N : Nm) (Z : Hp) : List (A × A) → List (NestedKey × Addr × Value) → Prop
  | nil : XR N Z [] []
  | cons {k v nk p u av l xs} : Rp N Z k (.ref p) → A.key k = some nk → nk.depth ≤ 8 → Rp N Z v av → RelV av u → XR N Z l xs → XR N Z ((k, v) :: l) ((nk, p, u) :: xs)
theorem tupKey_ok {k : A} (h : tupKey k = true) {Z v} (r : Rp N Z k v) : ∃ nk p, A.key k = some nk ∧ nk.depth ≤ 8 ∧ v = .ref p := by
  cases k <;> first | cases h | skip
  rename_i l
  simp only [tupKey, Bool.and_eq_true, decide_eq_true_eq] at h
  cases r with
  | tup q rl =>
    rename_i p vs
    obtain ⟨nk, h1, h2⟩ := key_some (.tup l) (by simpa [A.hk] using h.1)
    exact ⟨nk, p, h1, by rw [h2]; exact h.2, rfl⟩
theorem XR.of {Z} {P : Program} : ∀ {l es}, RpD N Z l es → (l.all fun p => tupKey p.1) = true → ∃ xs, XR N Z l xs ∧ es = xs.map (entryOfKey (nestedKind P N.w))
  | _, _, .nil, _ => ⟨[], .nil, rfl⟩
  | _, _, .cons (e := e) a b c d q g r, h => by
    simp only [List.all_cons, Bool.and_eq_true] at h
    obtain ⟨xs, h1, h2⟩ := XR.of (P := P) r h.2
    obtain ⟨nk', p, k1, k2, rfl⟩ := tupKey_ok h.1 a
    rw [c] at k1
    cases k1
    refine ⟨(_, p, e.val) :: xs, .cons a c k2 q g h1, ?_⟩
    rw [List.map_cons, ← h2]
    obtain ⟨eh, ek, ev⟩ := e
    have b : ek = .ref p := b
    subst b
    have d : eh = NestedKey.hash N.w _ := d
    subst d
    rfl
theorem XR.rpd {Z} {P : Program} : ∀ {l xs}, XR N Z l xs → RpD N Z l (xs.map (entryOfKey (nestedKind P N.w)))
  | _, _, .nil => .nil
  | _, _, .cons a c d q g r => .cons a rfl c rfl q g (XR.rpd r)
theorem XR.is (F : Fit N X) {pins σ H s Z} (I : Inv X pins σ H s) (hz : Le Z H) : ∀ {l xs}, XR N Z l xs → ∀ x ∈ xs, (nestedKind X.prog X.w).is s.heap x.1 x.2.1
  | _, _, .nil, _, h => nomatch h
  | _, _, .cons a c d q g r, x, h => by
    rcases List.mem_cons.mp h with rfl | h
    · exact ⟨Rp.nest F I hz a rfl c, d⟩
    · exact XR.is F I hz r x h
theorem XR.mono {Z Z'} (h : Le Z Z') : ∀ {l xs}, XR N Z l xs → XR N Z' l xs
  | _, _, .nil => .nil
  | _, _, .cons a c d q g r => .cons (a.mono h) c d (q.mono h) g (XR.mono h r)
theorem XR.length {Z} : ∀ {l xs}, XR N Z l xs → l.length = xs.length
  | _, _, .nil => rfl
  | _, _, .cons _ _ _ _ _ r => by simp [XR.length r]
theorem XR.keys {Z} : ∀ {l xs}, XR N Z l xs → l.map (fun p => A.key p.1) = xs.map fun x => some x.1
  | _, _, .nil => rfl
  | _, _, .cons _ c _ _ _ r => by simp only [List.map_cons, XR.keys r, c]
theorem XR.has {Z} {k : A} {nk : NestedKey} (hk : A.key k = some nk) : ∀ {l xs}, XR N Z l xs → (atKey xs nk).isSome = dHas l k
  | _, _, .nil => rfl
  | _, _, .cons (nk := n0) a c d q g r => by
    have ih := XR.has hk r
    have e := key_eqv _ _ _ _ c hk
    simp only [dHas, List.any_cons, ← e]
    unfold atKey at ih ⊢
    rw [List.find?_cons]
    by_cases h : n0 = nk
    · subst h
      rw [decide_eq_true rfl, NestedKey.beq_self]
      rfl
    · rw [decide_eq_false h]
      have : NestedKey.beq n0 nk = false := by rw [← NestedKey.decide_eq, decide_eq_false h]
      rw [this]
      simpa [dHas] using ih
theorem XR.put {Z} {k : A} {nk : NestedKey} {p : Addr} {v : A} {av : V} {u : Value} (hr : Rp N Z k (.ref p)) (hk : A.key k = some nk) (hd : nk.depth ≤ 8) (hv : Rp N Z v av) (ru : RelV av u) {l xs} (r : XR N Z l xs) : XR N Z (dPut l k v) (storedH xs nk p u) := by
  have put : ∀ {l xs}, XR N Z l xs → XR N Z (l.map fun p => if A.eqv p.1 k then (p.1, v) else p) (xs.map (putAt nk u)) := by
    intro l xs r
    induction r with
    | nil => exact .nil
    | @cons k1 v1 n1 p1 u1 a1 l xs a c d q g r ih =>
      have e := key_eqv _ _ _ _ c hk
      simp only [List.map_cons, ← e]
      by_cases h : n1 = nk
      · subst h
        rw [NestedKey.beq_self]
        simp only [putAt, if_true]
        exact .cons a c d hv ru ih
      · have h2 : NestedKey.beq n1 nk = false := by rw [← NestedKey.decide_eq, decide_eq_false h]
        rw [h2]
        simp only [putAt, if_neg h, Bool.false_eq_true, if_false]
        exact .cons a c d q g ih
  have app : ∀ {l xs}, XR N Z l xs → XR N Z (l ++ [(k, v)]) (xs ++ [(nk, p, u)]) := by
    intro l xs r
    induction r with
    | nil => exact .cons hr hk hd hv ru .nil
    | cons a c d q g r ih => exact .cons a c d q g ih
  unfold dPut storedH
  rw [XR.has hk r]
  cases dHas l k with
  | true => exact put r
  | false => exact app r
theorem XR.allTup {Z} : ∀ {l xs}, XR N Z l xs → (l.all fun p => tupKey p.1) = true
  | _, _, .nil => rfl
  | _, _, .cons (k := k) a c d q g r => by
    rw [List.all_cons, XR.allTup r, Bool.and_true]
    have hk := key_hk k _ c
    obtain ⟨nk', h1, h2⟩ := key_some k hk
    rw [← key_def, c] at h1
    cases h1
    cases a with
    | tup q rl =>
      simp only [tupKey, Bool.and_eq_true, decide_eq_true_eq]
      exact ⟨by simpa [A.hk] using hk, by rw [← h2]; exact d⟩
    | _ => simp [A.hk] at hk
/-- the dict at d, as the library tells it -/
theorem XR.dictOf (F : Fit N X) {pins σ H s Z} (I : Inv X pins σ H s) (hz : Le Z H) {l xs} (r : XR N Z l xs) {d : Addr} {ep : Nat} (hd : s.heap.DictRaw d (xs.map (entryOfKey (nestedKind X.prog X.w))).toArray ep) (hn : (l.map fun p => A.key p.1).Nodup) : s.heap.DictOfH (nestedKind X.prog X.w) d xs := by
  obtain ⟨o, ho, hx, hdat⟩ := hd
  refine ⟨o, _, ep, ho, hx, hdat, by simp, r.is F I hz, ?_⟩
  rw [r.keys] at hn
  have : (xs.map fun x => some x.1) = (xs.map (·.1)).map some := by simp
  rw [this] at hn
  clear this
  generalize xs.map (·.1) = ks at hn ⊢
  induction ks with
  | nil => exact .nil
  | cons k ks ih =>
    rw [List.map_cons, List.nodup_cons] at hn
    rw [List.nodup_cons]
    exact ⟨fun h => hn.1 (List.mem_map.mpr ⟨k, h, rfl⟩), ih hn.2⟩
end
end PV
end
section
set_option linter.all false
set_option Elab.async false
set_option maxRecDepth 100000
set_option maxHeartbeats 4000000
/-! PV13: comprehensions of dicts. -/
namespace PV
open PySem PySem.Spec PyProof.Rows L2

/-- the store into the new dict is done, in a block of X -/
def Puts (X : Cx) (D : Addr) (y z : V) (H : Hp) (Nx : Hp → Prop) : Prop := ∀ (s0 : Shared) (H0 : Hp) (scope : Scope) (ce : PySem.Env) (fp : List Addr) (pins : List (Addr × Obj)) (σ : Sl) (s : Shared) (u r : Value) (E : Value → Shared → Prop),
  Inv (X.blk s0 H0 scope ce fp) pins σ H s → RelV y u → RelV z r → wpAny (model X.prog X.w) X.A (dictSet D u r) (fun _ s' => ∃ H', Inv (X.blk s0 H0 scope ce fp) pins σ H' s' ∧ Nx H') E s
def tDcX (X : Cx) (wi : TI) (g : TG) (tt : TT) (tk tv : TE) (vs : List Nat) : TE := fun σ H Q => wi σ H fun J H1 => ∀ D, H1 D = none → (D == sysModules) = false → ∃ W : Nat → Nat → Hp → Prop, (∃ m, W 0 m (upd H1 D (dO D #[] 0))) ∧ ∀ i m H, W i m H →
  (J.stop i H ∧ Q (.ref D) H) ∨ (J.go i H ∧ ∃ Nx : Hp → Prop, (∀ H', Nx H' → ∃ m', m' < m ∧ W (i + 1) m' H') ∧ ∀ x H', J.yld i H x H' → g x (L2.wipe σ vs) H' fun σ2 H2 => L2.wipe σ2 vs = L2.wipe σ vs ∧ tt σ2 H2 fun b H3 =>
    if b = true then tk σ2 H3 fun y H4 => tv σ2 H4 fun z H5 => Puts X D y z H5 Nx else Nx H3)
section
variable {X : Cx}
theorem dO_new (h : Heap) (D : Addr) (hD : h.objs.size = D) {P : Program} {w : World} {H : Hp} : ObjOk P w H (h.push { cls := .type "dict", data := .dict #[] }) D (dO D #[] 0) := by
  subst hD
  have e : (h.push { cls := .type "dict", data := .dict #[] }).get? h.objs.size = some { cls := .type "dict", data := .dict #[] } := Heap.get?_push_size _ rfl
  exact ⟨⟨_, e, ⟨rfl, rfl, rfl⟩, rfl⟩, ⟨_, e⟩, fun h1 h2 ⟨o, e, r⟩ k => ⟨o, k _ e, r⟩⟩
theorem dcx_core {pins : List (Addr × Obj)} {s : Shared} {σ : Sl} {H : Hp} {Q : VK} {kx vx tg iter : Expr} {ifs : List Expr} {scope : Scope} {own : List (PySem.Str × Nat)} {pos pos' : Pos} {wi : TI} {g : TG} {tt : TT} {tk tv : TE} {use : Option (Value → Sem Unit)} {Qf : Value → Shared → Prop}
    (hc : X.calm = true) (hN : X.N.Nodup) (I : Inv X pins σ H s) (hi : PI X tg iter wi) (ok : BlkOk X.N X.env.scope scope own)
    (hg : ∀ (s : Shared) (H : Hp) (C : Addr) (cl : List (PySem.Str × Addr)) (fp : List Addr), PG (X.blk s H scope (compEnvC scope cl C X.env) fp) tg g) (ht : ∀ (s : Shared) (H : Hp) (C : Addr) (cl : List (PySem.Str × Addr)) (fp : List Addr), PTs (X.blk s H scope (compEnvC scope cl C X.env) fp) ifs tt)
    (hk : ∀ (s : Shared) (H : Hp) (C : Addr) (cl : List (PySem.Str × Addr)) (fp : List Addr), PE (X.blk s H scope (compEnvC scope cl C X.env) fp) kx tk)
    (he : ∀ (s : Shared) (H : Hp) (C : Addr) (cl : List (PySem.Str × Addr)) (fp : List Addr), PE (X.blk s H scope (compEnvC scope cl C X.env) fp) vx tv) (hs : ∀ x, foldedSetIterable iter X.env x = pure x)
    (h : tDcX X wi g tt tk tv (own.map (·.2)) σ H Q)
    (hRR : ∀ D C s' m H', Inv X pins σ H' s' → Q (.ref D) H' → s'.heap.Ns C m → FpOk X pins H' C → compPost (model X.prog X.w) X.A X.xe use Qf (.ref D) C (.ok .next) s') :
    wpAny (model X.prog X.w) X.A (comprehension (.DictComp kx vx [⟨tg, iter, ifs, 0⟩] scope pos) scope X.env pos' newDict false (eval iter X.env) use) Qf X.xe s := by
  have hfree : ∀ y ∈ scope.names, y.2 = .free → ∃ c, X.env.cells.lookup y.1 = some c := fun y hy e => (ok.free y hy e).elim (fun k => I.ok.has _ (.inl k)) fun k => I.ok.has _ (.inr k)
  refine wpAny_comprehension_free (use := use) rfl hs (closure_ok hfree) ok.kind (fun y hy e => by rw [ok.uniq y hy, e]) (thn (hi.run pins s σ H _ I h) fun xv s1 hx => thn hx fun itv s2 h2 => ?_)
  obtain ⟨it, fp, tn, J, H2, e, I2, T, st2, f2, q⟩ := h2
  subst e
  refine wpAny_newObj_type (newEnv_comp ?_)
  generalize hD : s2.heap.objs.size = D
  have hDn : H2 D = none := I2.hok.fresh (Nat.le_of_eq hD)
  have hDs : (D == sysModules) = false := by rw [← hD]; exact beq_eq_false_iff_ne.mpr (Ne.symm (Nat.ne_of_lt I2.big))
  obtain ⟨W, ⟨m0, w0⟩, turn⟩ := q D hDn hDs
  generalize hs3 : ({ s2 with heap := s2.heap.push { cls := .type "dict", data := .dict #[] } } : Shared) = s3
  have h3 : s3.heap = s2.heap.push { cls := .type "dict", data := .dict #[] } := by rw [← hs3]
  have I3 : Inv X pins σ (upd H2 D (dO D #[] 0)) s3 := by
    rw [← hs3]
    exact I2.laid (t' := s2.toks) (fun b o e => Heap.get?_push_of_some _ e) (Nat.le_of_eq hD) (dO_new _ _ hD)
  have sz : ∀ b ∈ fp, b < s2.heap.objs.size := fun b hb => let ⟨o, e, _⟩ := T.obj _ _ st2 b hb; Heap.lt_size e
  have f3 : ∀ b ∈ fp, FpOk X pins (upd H2 D (dO D #[] 0)) b ∧ b < s3.heap.objs.size := fun b hb =>
    ⟨⟨by rw [upd_ne (by rw [← hD]; exact Nat.ne_of_lt (sz b hb))]; exact (f2 b hb).1, (f2 b hb).2⟩, by rw [h3, Heap.size_push]; exact Nat.lt_succ_of_lt (sz b hb)⟩
  have st3 : tn 0 s3.heap := T.keep _ _ _ st2 fun b _ o e => by rw [h3]; exact Heap.get?_push_of_some _ e
  have I4 := block_start I3 ok hN f3
  have pg := hg s3 (upd H2 D (dO D #[] 0)) s3.heap.objs.size (cellsFrom (s3.heap.objs.size + 1) scope.names (cloFrom X.env.cells scope.names [])) fp
  have pt := ht s3 (upd H2 D (dO D #[] 0)) s3.heap.objs.size (cellsFrom (s3.heap.objs.size + 1) scope.names (cloFrom X.env.cells scope.names [])) fp
  have pk := hk s3 (upd H2 D (dO D #[] 0)) s3.heap.objs.size (cellsFrom (s3.heap.objs.size + 1) scope.names (cloFrom X.env.cells scope.names [])) fp
  have pe := he s3 (upd H2 D (dO D #[] 0)) s3.heap.objs.size (cellsFrom (s3.heap.objs.size + 1) scope.names (cloFrom X.env.cells scope.names [])) fp
  show codeAny _ _ (.compStart (.DictComp kx vx [⟨tg, iter, ifs, 0⟩] scope pos) 0 (.ref it) (.ref D) (compEnvC scope (cellsFrom (s3.heap.objs.size + 1) scope.names (cloFrom X.env.cells scope.names [])) s3.heap.objs.size X.env)) (compPost (model X.prog X.w) X.A X.xe use Qf (.ref D) s3.heap.objs.size) { s3 with heap := pushCells (s3.heap.push { cls := .type "dict", data := .dict #[] }) scope.names }
  have nfp : ∀ b ∈ fp, (upd H2 D (dO D #[] 0)) b = none := fun b hb => (f3 b hb).1.1
  generalize hce : compEnvC scope (cellsFrom (s3.heap.objs.size + 1) scope.names (cloFrom X.env.cells scope.names [])) s3.heap.objs.size X.env = ce at I4 pg pt pk pe ⊢
  have cL : ce.locals = s3.heap.objs.size := by subst hce; rfl
  generalize hH3 : upd H2 D (dO D #[] 0) = H3 at I3 I4 pg pt pk pe w0 nfp f3
  generalize hs4 : ({ s3 with heap := pushCells (s3.heap.push { cls := .type "dict", data := .dict #[] }) scope.names } : Shared) = s4 at I4 ⊢
  have st4 : tn 0 s4.heap := T.keep _ _ _ st3 fun b _ o e => by rw [← hs4]; exact pushCells_keeps _ _ _ _ (Heap.get?_push_of_some _ e)
  have stat : ∀ {σ' : Sl} {H' : Hp} {s' : Shared}, Inv (X.blk s3 H3 scope ce fp) [] σ' H' s' → (∀ b ∈ fp, H' b = none) → ∀ b ∈ fp, FpOk (X.blk s3 H3 scope ce fp) [] H' b := fun {σ' H' s'} I' hn b hb =>
    ⟨hn b hb, (I'.ok.exf b hb).1, I'.ok.exfs b hb, .inl hb, fun x c e => (I'.ok.exf b hb).2 x c e, fun p hp => absurd (show p ∈ ([] : List (Addr × Obj)) ++ [] from hp) (by simp)⟩
  have loop : codeAny (model X.prog X.w) X.A (.compLoop (.DictComp kx vx [⟨tg, iter, ifs, 0⟩] scope pos) 0 (.ref it) (.ref D) ce) (compPost (model X.prog X.w) X.A X.xe use Qf (.ref D) s3.heap.objs.size) s4 := by
    refine compLoop_anyD (fun n s' => ∃ i H', Inv (X.blk s3 H3 scope ce fp) [] (L2.wipe σ (own.map (·.2))) H' s' ∧ tn i s'.heap ∧ (∀ b ∈ fp, H' b = none) ∧ W i n H') ?_ m0 ⟨0, H3, I4, st4, nfp, w0⟩
    rintro n s5 ⟨i, H5, I5, st5, n5, w5⟩
    rcases turn i n H5 w5 with ⟨stop, qq⟩ | ⟨go, Nx, hNx, step⟩
    · refine thnF (T.done (X.blk s3 H3 scope ce fp) rfl rfl rfl hc i [] s5 _ H5 (fun _ _ => False) I5 (stat I5 n5) st5 stop) fun r s6 ⟨hr, I6⟩ => ?_
      subst hr
      have I7 : Inv X pins σ H5 s6 := I3.call' (ch := fp) I6.os I6.base I6.hok I6.bare fun b hb => ⟨(f3 b hb).1.2.2.2.1, (f3 b hb).1.2.1, (f3 b hb).1.2.2.2.2.1, (f3 b hb).1.2.2.2.2.2⟩
      have z : H5 ce.locals = none := I6.free
      rw [cL] at z
      obtain ⟨m, hn, _⟩ := I6.loc
      have hn : s6.heap.Ns ce.locals m := hn
      rw [cL] at hn
      exact hRR D s3.heap.objs.size s6 m H5 I7 qq hn (I3.fpOk (Nat.le_refl _) z)
    · refine thnF (T.item (X.blk s3 H3 scope ce fp) rfl rfl rfl hc i [] s5 _ H5 (fun _ _ => False) I5 (stat I5 n5) st5 go) fun r s6 ⟨u, hr, h6⟩ => ?_
      subst hr
      refine thnF h6 fun _ s7 ⟨x, H7, I7, r7, y7, st7, n7⟩ => ?_
      have I7' := I7.pinned (stat I7 n7) (T.obj _ _ st7)
      refine thnF (pg.run _ s7 _ H7 x u _ I7' r7 (step x H7 y7)) fun _ s8 ⟨σ8, H8, I8, hw8, q8⟩ => ?_
      refine thnF (pt.run _ s8 σ8 H8 _ I8 q8) fun b s9 ⟨H9, I9, q9⟩ => ?_
      have fin : ∀ {s' : Shared} {H' : Hp}, Inv (X.blk s3 H3 scope ce fp) ([] ++ pinsAt fp s7.heap) σ8 H' s' → Nx H' → ∃ m, m < n ∧ ∃ i H', Inv (X.blk s3 H3 scope ce fp) [] (L2.wipe σ (own.map (·.2))) H' s' ∧ tn i s'.heap ∧ (∀ b ∈ fp, H' b = none) ∧ W i m H' := fun {s' H'} I' nx => by
        obtain ⟨m', hm, w'⟩ := hNx H' nx
        have pin' : ∀ b ∈ fp, ∀ o, s7.heap.get? b = some o → s'.heap.get? b = some o ∧ H' b = none := fun b hb o e =>
          ⟨(I'.pin (b, o) (List.mem_append_right _ (List.mem_append_right _ (mem_pinsAt hb e)))).1, (I'.pin (b, o) (List.mem_append_right _ (List.mem_append_right _ (mem_pinsAt hb e)))).2.1⟩
        refine ⟨m', hm, i + 1, H', (I'.unpinned (pins := [])).weak (by rw [← hw8, wipe_length]) (fun j v e => ?_), T.keep _ _ _ st7 fun b hb o e => (pin' b hb o e).1, fun b hb => ?_, w'⟩
        · rw [← hw8] at e
          exact (wipe_some e).1
        · obtain ⟨o, e, _⟩ := T.obj _ _ st7 b hb
          exact (pin' b hb o e).2
      cases b with
      | false =>
        simp only [Bool.false_eq_true, if_false] at q9 ⊢
        exact fin I9 q9
      | true =>
        simp only [if_true] at q9 ⊢
        refine thnF (pk.run _ s9 σ8 H9 _ I9 q9) fun z s10 ⟨yk, H10, I10, r10, q10⟩ => ?_
        refine thnF (pe.run _ s10 σ8 H10 _ I10 q10) fun z2 s11 ⟨yv, H11, I11, r11, put⟩ => ?_
        exact thnF (put s3 H3 scope ce fp _ σ8 s11 z z2 (fun _ _ => False) I11 r10 r11) fun _ s12 ⟨H12, I12, nx⟩ => fin I12 nx
  exact codeAny_compStart_dict loop (T.self X.A 0 _ _ _ st4 loop)
/-- as a value -/
theorem pe_dcx {kx vx tg iter : Expr} {ifs : List Expr} {scope : Scope} {own : List (PySem.Str × Nat)} {pos : Pos} {wi : TI} {g : TG} {tt : TT} {tk tv : TE} (hc : X.calm = true) (hN : X.N.Nodup) (hi : PI X tg iter wi) (ok : BlkOk X.N X.env.scope scope own)
    (hg : ∀ (s : Shared) (H : Hp) (C : Addr) (cl : List (PySem.Str × Addr)) (fp : List Addr), PG (X.blk s H scope (compEnvC scope cl C X.env) fp) tg g) (ht : ∀ (s : Shared) (H : Hp) (C : Addr) (cl : List (PySem.Str × Addr)) (fp : List Addr), PTs (X.blk s H scope (compEnvC scope cl C X.env) fp) ifs tt)
    (hk : ∀ (s : Shared) (H : Hp) (C : Addr) (cl : List (PySem.Str × Addr)) (fp : List Addr), PE (X.blk s H scope (compEnvC scope cl C X.env) fp) kx tk)
    (he : ∀ (s : Shared) (H : Hp) (C : Addr) (cl : List (PySem.Str × Addr)) (fp : List Addr), PE (X.blk s H scope (compEnvC scope cl C X.env) fp) vx tv) (hs : ∀ x, foldedSetIterable iter X.env x = pure x) :
    PE X (.DictComp kx vx [⟨tg, iter, ifs, 0⟩] scope pos) (tDcX X wi g tt tk tv (own.map (·.2))) := by
  refine ⟨fun pins s σ H Q I h => ?_⟩
  rw [arm_eval_DictComp]
  refine dcx_core hc hN I hi ok hg ht hk he hs h fun D C s' m H' I' q hn f => ⟨m, hn, fun h'' sb => ?_⟩
  obtain ⟨f0, f1, f2, f3, f4, f5⟩ := f
  exact ⟨.ref D, H', I'.turned (t' := s'.toks) (fun b o hb e => (sb.2 b hb).trans e) f0 f1 f3 f4 f5, rfl, q⟩
end
section
variable {N : Nm} {O : Orc} {X : Cx}
theorem dput_nodup {l : List (A × A)} {k v : A} {nk : NestedKey} (hk : A.key k = some nk) (hl : ∀ p ∈ l, ∃ n, A.key p.1 = some n) (h : (l.map fun p => A.key p.1).Nodup) : ((dPut l k v).map fun p => A.key p.1).Nodup := by
  unfold dPut
  cases e : dHas l k with
  | true =>
    simp only [if_true, List.map_map]
    have : ((fun p : A × A => A.key p.1) ∘ fun p => if A.eqv p.1 k = true then (p.1, v) else p) = fun p : A × A => A.key p.1 := by
      funext p
      simp only [Function.comp]
      split <;> rfl
    rw [this]
    exact h
  | false =>
    simp only [Bool.false_eq_true, if_false, List.map_append, List.map_cons, List.map_nil]
    rw [List.nodup_append]
    refine ⟨h, by simp, fun a ha b hb => ?_⟩
    rw [List.mem_singleton.mp hb]
    obtain ⟨p, hp, rfl⟩ := List.mem_map.mp ha
    obtain ⟨n, hn⟩ := hl p hp
    intro he
    rw [he] at hn
    rw [hk] at hn
    cases hn
    have q := key_eqv p.1 k nk nk (he.trans hk) hk
    rw [NestedKey.beq_self] at q
    have : dHas l k = true := List.any_eq_true.mpr ⟨p, hp, q.symm⟩
    rw [e] at this
    cases this
theorem dput_len (l : List (A × A)) (k v : A) : (dPut l k v).length ≤ l.length + 1 := by
  unfold dPut
  split <;> simp
/-- what lies loose at D is written -/
theorem inv_put {pins : List (Addr × Obj)} {σ : Sl} {H : Hp} {s : Shared} {h' : Heap} {t' : Nat} {D : Addr} {es es' : Array DictEntry} {ep ep' : Nat} (I : Inv X pins σ H s) (hD : H D = some (dO D es ep)) (sb : Heap.SameBut D s.heap h') (hr : h'.DictRaw D es' ep') : Inv X pins σ (upd H D (dO D es' ep')) { s with heap := h', toks := t' } := by
  obtain ⟨o, ho, hx, hd⟩ := hr
  refine I.write (x := D) (e := D) (by rw [hD]; trivial) (.inl rfl) (fun b u hb q => (sb.2 b hb).trans q) ⟨o, ho⟩ ?_
  exact ⟨⟨o, ho, hx, hd⟩, ⟨o, ho⟩, fun h1 h2 ⟨o, e, r⟩ k => ⟨o, k _ e, r⟩⟩
theorem blk_fit (F : Fit N X) (s : Shared) (H : Hp) (scope : Scope) (ce : PySem.Env) (fp : List Addr) : Fit N (X.blk s H scope ce fp) := ⟨F.K, F.w, F.nd, F.calm, F.units, F.dp, F.hd, F.gu⟩
/-- a key that is a tuple is put -/
theorem puts_tup (F : Fit N X) {D : Addr} {H : Hp} {Z c st} {es : Array DictEntry} {ep : Nat} {acc : List (A × A)} {k v : A} {y z : V} {Nx : Hp → Prop} (R : RelH N Z c st H) (hD : H D = some (dO D es ep)) (ra : RpD N Z acc es.toList) (hn : szOk es acc) (hall : (acc.all fun p => tupKey p.1) = true) (hk : tupKey k = true) (rk : Rp N Z k y) (rv : Rp N Z v z)
    (hlt : es.size < sizeLine) (h : ∀ es' ep', RpD N Z (dPut acc k v) es'.toList → szOk es' (dPut acc k v) → ((dPut acc k v).all fun p => tupKey p.1) = true → es'.size ≤ es.size + 1 → Nx (upd H D (dO D es' ep'))) : Puts X D y z H Nx := by
  intro s0 H0 scope ce fp pins σ s u r E I ry rz
  have FB := blk_fit F s0 H0 scope ce fp
  obtain ⟨nk, p, k1, k2, rfl⟩ := tupKey_ok hk rk
  cases ry
  obtain ⟨xs, x1, x2⟩ := XR.of (P := X.prog) ra hall
  have hraw : s.heap.DictRaw D (xs.map (entryOfKey (nestedKind X.prog X.w))).toArray ep := by
    have q : s.heap.DictRaw D es ep := (I.hok D _ hD).1
    rw [F.w, ← x2]
    simpa using q
  have dd : s.heap.DictOfH (nestedKind X.prog X.w) D xs := XR.dictOf FB I R.sub x1 hraw hn.2
  have hlen : xs.length ≤ sizeLine := by rw [← x1.length, ra.length, Array.length_toList]; exact hn.1
  have hu : (nestedKind X.prog X.w).room X.A := by have := F.units; show X.A.units + 8 < cLine; omega
  refine wpAny_dictSet_heap (hsz := hlen) hu ⟨Rp.nest FB I R.sub rk rfl k1, k2⟩ dd fun h' dd' sb => ?_
  have x3 := XR.put rk k1 k2 rv rz x1
  obtain ⟨o, es', ep', ho, hx, hdat, he, his, hnd⟩ := dd'
  have r3 : RpD N Z (dPut acc k v) es'.toList := by
    have q := XR.rpd (P := X.prog) x3
    rw [he, F.w]
    exact q
  have l1 : (dPut acc k v).length = es'.size := by simpa using r3.length
  have l2 : acc.length = es.size := by simpa using ra.length
  have l3 := dput_len acc k v
  have hs' : szOk es' (dPut acc k v) := ⟨by omega, dput_nodup k1 (fun p hp => by
    have := (List.all_eq_true.mp hall) p hp
    obtain ⟨q, hq1, hq2⟩ := List.mem_iff_getElem.mp hp
    cases hp1 : p.1 with
    | tup l =>
      rw [hp1] at this
      simp only [tupKey, Bool.and_eq_true] at this
      obtain ⟨n, h1, _⟩ := key_some (.tup l) (by simpa [A.hk] using this.1)
      exact ⟨n, h1⟩
    | _ => rw [hp1] at this; simp [tupKey] at this) hn.2⟩
  exact ⟨_, inv_put I hD sb ⟨o, ho, hx, hdat⟩, h es' ep' r3 hs' (XR.allTup x3) (by omega)⟩

theorem dc_core' (F : Fit N X) {kx vx tg iter : Expr} {own : List (PySem.Str × Nat)} {it : PV.It} {g : Tg} {t : Te} {x y : Ex}
    (hsl : ∀ i ∈ g.slots, i ∈ own.map (·.2)) (hi : SndI N O X tg iter it)
    {tt : TT} {te tv : TE} {gg : TG} (hgg : ∀ a v env env' st σ Z c H', RelH N Z c st H' → RelE N Z c env σ → Rp N Z a v → g.put a env = some env' → ∀ Q : Sl → Hp → Prop, (∀ σ', RelE N Z c env' σ' → Off g.slots σ σ' → Q σ' H') → gg v σ H' Q)
    (htt : ∀ env st σ Z c H, RelH N Z c st H → RelE N Z c env σ → ∀ Q : Bool → Hp → Prop, Outc N NoX σ Z c H (t O env st) (fun b _ _ H' => Q b H') → tt σ H Q)
    (hte : ∀ env st σ Z c H, RelH N Z c st H → RelE N Z c env σ → ∀ Q : VK, Outc N NoX σ Z c H (x O env st) (fun w Z' c' H' => ∀ v, RpW N Z' c' w v → Q v H') → te σ H Q)
    (htv : ∀ env st σ Z c H, RelH N Z c st H → RelE N Z c env σ → ∀ Q : VK, Outc N NoX σ Z c H (y O env st) (fun w Z' c' H' => ∀ v, RpW N Z' c' w v → Q v H') → tv σ H Q)
    {Y : WX} (tk : Takes X Y) {env st σ Z c H} (R : RelH N Z c st H) (E : RelE N Z c env σ) {Q : VK}
    (h : Outc N Y σ Z c H (eDc it g (own.map (·.2)) t x y O env st) (fun w Z' c' H' => ∀ l es ep p, w = .v (.dct l) → H' p = none → (p == sysModules) = false → szOk es l → RpD N Z' l es.toList → Q (.ref p) (upd H' p (dO p es ep)))) :
    tDcX X (WI X tg iter) gg tt te tv (own.map (·.2)) σ H Q := by
  refine hi Y tk env st σ Z c H R E _ (Outc.mono (show Outc N Y σ Z c H ((it O env st).bind _) _ from h).bind (Ext.refl ..) fun p Z1 c1 H1 _ ⟨st1, R1, x1, h1⟩ J hJ hsz => ?_)
  obtain ⟨items, ok⟩ := p
  intro D hD hDs
  cases hok : ok st1 with
  | false => simp only [hok] at h1; exact h1.elim
  | true =>
    simp only [hok, if_true] at h1
    have hz1 : Z1 D = none := by
      cases q : Z1 D with
      | none => rfl
      | some u => rw [R1.sub D u q] at hD; cases hD
    have hc1 : D ∉ c1 := fun hm => R1.tracked hm hD
    obtain ⟨_, R1'⟩ := ext_junk (o := dO D #[] 0) R1 hD
    have E1 := (E.mono x1).wipe (own.map (·.2))
    have h2 : Outc N NoX σ Z1 c1 H1 (dcGo O g t x y (PV.wipe env (own.map (·.2))) ok items [] st1).quiet fun ys Z' c' H' => ∀ es ep, H' D = none → szOk es ys → RpD N Z' ys es.toList → Q (.ref D) (upd H' D (dO D es ep)) := by
      refine Outc.quiet (Y := Y) (σ := σ) (Outc.mono h1.bind (Ext.refl ..) fun ys Z' c' H' _ ⟨st2, R2, x2, h2⟩ es ep hn hz rl => ?_)
      exact h2 Z' c' H' (Ext.refl ..) R2 ys es ep D rfl hn hDs hz rl
    generalize PV.wipe env (own.map (·.2)) = env1 at E1 h2
    generalize hvs : own.map (·.2) = vs at *
    refine ⟨fun i m H' => ∃ st' Z' c' acc es ep, m = items.length - i ∧ i ≤ items.length ∧ RelH N Z' c' st' H' ∧ H' D = some (dO D es ep) ∧ D ∉ c' ∧ Z' D = none ∧ Ext Z1 c1 H1 Z' c' (PV.rm H' D) ∧ ok st' = true ∧ RpD N Z' acc es.toList ∧ szOk es acc ∧ (acc.all fun p => tupKey p.1) = true ∧ es.size ≤ i ∧
      Outc N NoX σ Z' c' (PV.rm H' D) (dcGo O g t x y env1 ok (items.drop i) acc st').quiet fun ys Z'' c'' H'' => ∀ es ep, H'' D = none → szOk es ys → RpD N Z'' ys es.toList → Q (.ref D) (upd H'' D (dO D es ep)),
      ⟨items.length, st1, Z1, c1, [], #[], 0, rfl, Nat.zero_le _, R1', upd_same, hc1, hz1, by rw [rm_upd, rm_none hD]; exact Ext.refl .., hok, .nil, ⟨Nat.zero_le _, List.nodup_nil⟩, rfl, Nat.le_refl _, by rw [rm_upd, rm_none hD]; exact h2⟩, ?_⟩
    rintro i m H' ⟨st', Z', c', acc, es, ep, rfl, hil, R', hD', hc', hz', x', hok', ra, hso, hall, hal, h'⟩
    have xx : Ext Z1 c1 H1 Z' c' H' := by
      refine ⟨x'.zz, x'.new, fun p o e hp => ?_, x'.pre, fun p e => ?_⟩
      · have := x'.keep p o e hp
        by_cases hq : p = D
        · subst hq; rw [hD] at e; cases e
        · rwa [rm_ne hq] at this
      · have := x'.there p e
        by_cases hq : p = D
        · subst hq; rw [hD']; exact fun z => nomatch z
        · rwa [rm_ne hq] at this
    obtain ⟨w1, w2⟩ := hJ i Z' c' st' H' xx.e0 R' hok'
    cases ed : items.drop i with
    | nil =>
      rw [ed] at h'
      refine .inl ⟨w2 (Nat.le_antisymm hil (List.drop_eq_nil_iff.mp ed)), ?_⟩
      have q := h' Z' c' (PV.rm H' D) (Ext.refl ..) (relH_rm R' hc' hz') es ep rm_same hso ra
      rwa [upd_rm hD'] at q
    | cons a rest =>
      rw [ed] at h'
      obtain ⟨ea, er⟩ := getElem?_drop_cons ed
      have hlt : i < items.length := (List.getElem?_eq_some_iff.mp ea).1
      obtain ⟨go, yl⟩ := w1 a ea
      refine .inr ⟨go, fun H2 => ∃ m', m' < items.length - i ∧ ∃ st' Z' c' acc es ep, m' = items.length - (i + 1) ∧ i + 1 ≤ items.length ∧ RelH N Z' c' st' H2 ∧ H2 D = some (dO D es ep) ∧ D ∉ c' ∧ Z' D = none ∧ Ext Z1 c1 H1 Z' c' (PV.rm H2 D) ∧ ok st' = true ∧ RpD N Z' acc es.toList ∧ szOk es acc ∧ (acc.all fun p => tupKey p.1) = true ∧ es.size ≤ i + 1 ∧
        Outc N NoX σ Z' c' (PV.rm H2 D) (dcGo O g t x y env1 ok (items.drop (i + 1)) acc st').quiet fun ys Z'' c'' H'' => ∀ es ep, H'' D = none → szOk es ys → RpD N Z'' ys es.toList → Q (.ref D) (upd H'' D (dO D es ep)), fun H2 q => q, fun yv H2 hy => ?_⟩
      obtain ⟨Z2, x2, R2, rx⟩ := yl yv H2 hy
      obtain ⟨hD2, hc2, hz2⟩ := tracked_keep x2 hD' hc' hz'
      have E2 : RelE N Z2 c' env1 (L2.wipe σ vs) := ((E1.mono x').mono (ext_rm x2 hz2))
      have h' : Outc N NoX σ Z' c' (PV.rm H' D) (match g.put a env1 with
        | none => Res.bad
        | some e1 => (t O e1 st').bind fun b st1 => if b then (x O e1 st1).bind fun k st2 => (Res.of k.val st2).bind fun k st3 => (y O e1 st3).bind fun v st4 => (Res.of v.val st4).bind fun v st5 =>
            if tupKey k && ok st5 then dcGo O g t x y env1 ok rest (dPut acc k v) st5 else .bad
          else if ok st1 then dcGo O g t x y env1 ok rest acc st1 else .bad).quiet _ := h'
      cases ep' : g.put a env1 with
      | none => rw [ep'] at h'; exact h'.elim
      | some e1 =>
        rw [ep'] at h'
        refine hgg a yv env1 e1 st' (L2.wipe σ vs) Z2 c' H2 R2 E2 rx ep' _ fun σ2 E3 o3 => ⟨?_, ?_⟩
        · rw [o3 vs hsl, wipe_idem _ _ _ fun i hi => hi]
        · have h3 := Outc.mono h' (ext_rm x2 hz2) fun _ _ _ _ _ q => q
          simp only [quiet_bind] at h3
          refine htt e1 st' σ2 Z2 c' H2 R2 E3 _ (Outc.mono (Outc.rm (Y := NoX) hD2 hc2 hz2 (Outc.quiet (σ' := σ2) h3.bind)) (Ext.refl ..) ?_)
          rintro b Z3 c3 H3 x3 ⟨hD3, hc3, hz3, st3, R3, x3', h4⟩
          have R3' := relH_add R3
          have xr3 : Ext Z1 c1 H1 Z3 c3 (PV.rm H3 D) := (x'.trans (ext_rm x2 hz2)).trans x3'
          have ra3 := ra.mono ((ext_rm x2 hz2).zz.trans x3'.zz)
          cases b with
          | false =>
            simp only [Bool.false_eq_true, if_false] at h4 ⊢
            cases ho : ok st3 with
            | false => rw [ho] at h4; exact h4.elim
            | true =>
              rw [ho] at h4
              exact ⟨items.length - (i + 1), by omega, st3, Z3, c3, acc, es, ep, rfl, hlt, R3', hD3, hc3, hz3, xr3, ho, ra3, hso, hall, Nat.le_succ_of_le hal, by rw [er]; exact h4⟩
          | true =>
            simp only [if_true, quiet_bind] at h4 ⊢
            refine hte e1 st3 σ2 Z3 c3 H3 R3' (E3.mono x3) _ (Outc.mono (Outc.rm (Y := NoX) hD3 hc3 hz3 (Outc.quiet (σ' := σ2) h4.bind)) (Ext.refl ..) ?_)
            rintro w Z4 c4 H4 x4 ⟨hD4, hc4, hz4, st4, R4, x4', h5⟩ v rv
            have R4' := relH_add R4
            have xr4 := xr3.trans x4'
            have ra4 := ra3.mono x4'.zz
            cases w with
            | cel n => exact h5.elim
            | lam k l => exact h5.elim
            | v k =>
              simp only [PV.W.val, of_some, quiet_ok, bind_ok, quiet_bind] at h5
              refine htv e1 st4 σ2 Z4 c4 H4 R4' ((E3.mono x3).mono x4) _ (Outc.mono (Outc.rm (Y := NoX) hD4 hc4 hz4 (Outc.quiet (σ' := σ2) h5.bind)) (Ext.refl ..) ?_)
              rintro w2 Z5 c5 H5 x5 ⟨hD5, hc5, hz5, st5, R5, x5', h6⟩ v2 rv2
              have R5' := relH_add R5
              have xr5 := xr4.trans x5'
              have ra5 := ra4.mono x5'.zz
              cases w2 with
              | cel n => exact h6.elim
              | lam k l => exact h6.elim
              | v va =>
                simp only [PV.W.val, of_some, quiet_ok, bind_ok] at h6
                cases ht : tupKey k && ok st5 with
                | false => rw [ht] at h6; exact h6.elim
                | true =>
                  rw [ht] at h6
                  simp only [if_true] at h6
                  simp only [Bool.and_eq_true] at ht
                  have hl : es.size < sizeLine := by rw [sizeLine_eq]; exact Nat.lt_of_le_of_lt hal (Nat.lt_of_lt_of_le hlt hsz)
                  refine puts_tup F R5' hD5 ra5 hso hall ht.1 ((show Rp N Z4 k v from rv).mono x5'.zz) rv2 hl fun es' ep'' r6 s6 a6 l6 => ?_
                  exact ⟨items.length - (i + 1), by omega, st5, Z5, c5, dPut acc k va, es', ep'', rfl, hlt, ext_loose R5' hD5 hc5 hz5, upd_same, hc5, hz5, by rw [rm_upd]; exact xr5, ht.2, r6, s6, a6, by omega, by rw [rm_upd, er]; exact h6⟩
def SndD (N : Nm) (O : Orc) (X : Cx) (e : Expr) (x : Ex) : Prop := ∀ (Y : WX), Takes X Y → ∀ env st σ Z c H, RelH N Z c st H → RelE N Z c env σ → ∀ Q : VK,
  Outc N Y σ Z c H (x O env st) (fun w Z' c' H' => ∀ l es ep p, w = .v (.dct l) → H' p = none → (p == sysModules) = false → szOk es l → RpD N Z' l es.toList → Q (.ref p) (upd H' p (dO p es ep))) → WE X e σ H Q
theorem sndd_dc (F : Fit N X) {kx vx tg iter : Expr} {ifs : List Expr} {scope : Scope} {own : List (PySem.Str × Nat)} {it : PV.It} {g : Tg} {t : Te} {x y : Ex} {pos : Pos} (hf : noFold iter = true) (hb : BlkOk X.N X.env.scope scope own)
    (hsl : ∀ i ∈ g.slots, i ∈ own.map (·.2)) (hi : SndI N O X tg iter it)
    (hg : ∀ (s : Shared) (H : Hp) (C : Addr) (cl : List (PySem.Str × Addr)) (fp : List Addr), SndG N (X.blk s H scope (compEnvC scope cl C X.env) fp) tg g)
    (ht : ∀ (s : Shared) (H : Hp) (C : Addr) (cl : List (PySem.Str × Addr)) (fp : List Addr), SndTs N O (X.blk s H scope (compEnvC scope cl C X.env) fp) ifs t)
    (he : ∀ (s : Shared) (H : Hp) (C : Addr) (cl : List (PySem.Str × Addr)) (fp : List Addr), SndE N O (X.blk s H scope (compEnvC scope cl C X.env) fp) kx x)
    (hv : ∀ (s : Shared) (H : Hp) (C : Addr) (cl : List (PySem.Str × Addr)) (fp : List Addr), SndE N O (X.blk s H scope (compEnvC scope cl C X.env) fp) vx y) :
    SndD N O X (.DictComp kx vx [⟨tg, iter, ifs, 0⟩] scope pos) (eDc it g (own.map (·.2)) t x y) := by
  intro Y tk env st σ Z c H R E Q h
  refine WE.of (pe_dcx (g := fun v σ H Q => ∀ s0 H0 C cl fp, WG (X.blk s0 H0 scope (compEnvC scope cl C X.env) fp) tg v σ H Q)
    (tt := fun σ H Q => ∀ s0 H0 C cl fp, ∀ (pins : List (Addr × Obj)) (s : Shared), Inv (X.blk s0 H0 scope (compEnvC scope cl C X.env) fp) pins σ H s → wpAny (model X.prog X.w) X.A (forIn ifs true fun c r => if r = true then do let ok ← isTrue c (compEnvC scope cl C X.env) (eval c (compEnvC scope cl C X.env)); pure (ForInStep.yield ok) else pure (ForInStep.yield r)) (TP (X.blk s0 H0 scope (compEnvC scope cl C X.env) fp) pins σ Q) (fun _ _ => False) s)
    (tk := fun σ H Q => ∀ s0 H0 C cl fp, WE (X.blk s0 H0 scope (compEnvC scope cl C X.env) fp) kx σ H Q)
    (tv := fun σ H Q => ∀ s0 H0 C cl fp, WE (X.blk s0 H0 scope (compEnvC scope cl C X.env) fp) vx σ H Q)
    F.calm F.nd (WI.pi X tg iter) hb ?_ ?_ ?_ ?_ (folded_no hf _)) ?_
  · exact fun s0 H0 C cl fp => ⟨fun pins s σ H v u Q I r h => h s0 H0 C cl fp pins s u I r⟩
  · exact fun s0 H0 C cl fp => ⟨fun pins s σ H Q I h => h s0 H0 C cl fp pins s I⟩
  · exact fun s0 H0 C cl fp => ⟨fun pins s σ H Q I h => h s0 H0 C cl fp pins s I⟩
  · exact fun s0 H0 C cl fp => ⟨fun pins s σ H Q I h => h s0 H0 C cl fp pins s I⟩
  · refine dc_core' (X := X) (tg := tg) (iter := iter) (kx := kx) (vx := vx) F hsl hi ?_ ?_ ?_ ?_ tk R E h
    · exact fun a v env env' st σ Z c H' R' E' r hp Q hQ s0 H0 C cl fp => hg s0 H0 C cl fp a v env env' st σ Z c H' R' E' r hp Q hQ
    · exact fun env st σ Z c H R E Q q s0 H0 C cl fp => ht s0 H0 C cl fp NoX takes0 env st σ Z c H R E Q q
    · exact fun env st σ Z c H R E Q q s0 H0 C cl fp => he s0 H0 C cl fp NoX takes0 env st σ Z c H R E Q q
    · exact fun env st σ Z c H R E Q q s0 H0 C cl fp => hv s0 H0 C cl fp NoX takes0 env st σ Z c H R E Q q
theorem dc_dct {it : PV.It} {g : Tg} {own : List Nat} {t : Te} {x y : Ex} (env : Env) (st : Sto) (w : PV.W) (st1 : Sto) (h : eDc it g own t x y O env st = .ok w st1) : ∃ l, w = .v (.dct l) := by
  unfold eDc at h
  cases e : it O env st with
  | ok p st2 =>
    rw [e] at h
    simp only [bind_ok] at h
    split at h
    · cases e2 : (dcGo O g t x y (PV.wipe env own) p.2 p.1 [] st2).quiet with
      | ok ys st3 => rw [e2] at h; cases h; exact ⟨ys, rfl⟩
      | exc _ _ _ => rw [e2] at h; cases h
      | bad => rw [e2] at h; cases h
    · cases h
  | exc _ _ _ => rw [e] at h; cases h
  | bad => rw [e] at h; cases h
theorem SndD.e {e : Expr} {x : Ex} (hx : ∀ env st w st1, x O env st = .ok w st1 → ∃ l, w = .v (.dct l)) (h : SndD N O X e x) : SndE N O X e x := by
  intro Y tk env st σ Z c H R E Q q
  refine h Y tk env st σ Z c H R E Q ?_
  cases ex : x O env st with
  | ok w st1 =>
    rw [ex] at q
    obtain ⟨l, rfl⟩ := hx env st w st1 ex
    intro Z1 c1 H1 x1 R1 l' es ep p hl hp hs hz rl
    cases hl
    obtain ⟨x2, R2⟩ := ext_new (o := dO p es ep) R1 hp
    exact q _ _ _ (x1.trans x2) R2 (.ref p) (.dct upd_same (rl.mono x2.zz) hs hz)
  | exc k fs st1 => rw [ex] at q; exact q
  | bad => rw [ex] at q; exact q
theorem SndD.new {e : Expr} {x : Ex} (h : SndD N O X e x) : SndE N O X e (eNew x) := by
  intro Y tk env st σ Z c H R E Q q
  refine h Y tk env st σ Z c H R E Q (Outc.mono (show Outc N Y σ Z c H ((x O env st).bind _) _ from q).bind (Ext.refl ..) fun w Z1 c1 H1 _ ⟨st1, R1, x1, h1⟩ l es ep p hl hp hs hz rl => ?_)
  subst hl
  obtain ⟨x2, R2⟩ := ext_cell (o := dO p es ep) (C := .dct l) R1 hp ⟨es, ep, upd_same, rl, hs, hz⟩
  refine h1 _ _ _ x2 R2 (.ref p) ⟨p, ?_, rfl⟩
  rw [← R1.len]
  simp
end
end PV
end
section
set_option linter.all false
set_option Elab.async false
set_option maxRecDepth 100000
set_option maxHeartbeats 4000000
/-! PV14: sorted(.., key=f), f a def; list(d). -/
namespace PV
open PySem PySem.Spec PyProof.Rows L2
section
variable {N : Nm} {O : Orc} {X : Cx}
theorem RpD.keysL {Z} : ∀ {l : List (A × A)} {es : List DictEntry}, RpD N Z l es → ∃ kvs, RpL N Z (l.map (·.1)) kvs ∧ Vals kvs (es.map (·.key))
  | _, _, .nil => ⟨[], .nil, .nil⟩
  | _, _, .cons a b _ _ _ _ r => let ⟨kvs, h1, h2⟩ := RpD.keysL r; ⟨_ :: kvs, .cons a h1, .cons b h2⟩
theorem items_keys {es : Array DictEntry} {acc : Array Value} (it : ItemsOf (fun i v => ∃ en : DictEntry, es[i]? = some en ∧ v = en.key) acc es.size) : acc.toList = es.toList.map (·.key) := by
  have hl : acc.toList.length = (es.toList.map (·.key)).length := by simpa using it.1
  refine List.ext_getElem? fun j => ?_
  cases hj : acc.toList[j]? with
  | none =>
    have := List.getElem?_eq_none_iff.mp hj
    rw [List.getElem?_eq_none (by omega)]
  | some v =>
    obtain ⟨en, h1, rfl⟩ := it.2 j v (by simpa using hj)
    rw [List.getElem?_map]
    have h2 : es.toList[j]? = some en := by simpa using h1
    rw [h2]
    rfl
/-- a new list of a value's items -/
theorem coll_ok (F : Fit N X) {pins σ H s Z c st a v u l} {A' : Around} {E : Value → Shared → Prop} {Q : List Value → Shared → Prop} (hh : A'.handled = none) (I : Inv X pins σ H s) (R : RelH N Z c st H) (q : Vw N Z H a v) (rv : RelV v u) (e : collA a = some l)
    (h : ∀ h' tk vs us, (∀ b o, s.heap.get? b = some o → h'.get? b = some o) → RpL N Z l vs → Vals vs us → us.length ≤ sizeLine → Q us { s with heap := h', toks := tk }) : wpAny (model X.prog X.w) A' (collect u) Q E s := by
  cases a <;> first | cases e | skip
  · obtain ⟨p, vs, rfl, h1, r⟩ := Vw.tupq R.sub q
    cases rv
    obtain ⟨its, rr, ⟨o, ho, hc, n, hd⟩, hz⟩ := F.tuple I h1
    have hl : its.length ≤ sizeLine := by rw [← rr.length]; exact hz
    exact wpAny_collect_seq p (.inr rfl) ho hc hd (fun h' hk => by simpa using h h' s.toks vs its hk r rr hl) (by simpa using hl)
  · obtain ⟨p, vs, rfl, h1, r⟩ := q
    cases rv
    obtain ⟨its, rr, ⟨o, n, ho, hc, _, hd⟩, hz⟩ := F.list I h1
    have hl : its.length ≤ sizeLine := by rw [← rr.length]; exact hz
    exact wpAny_collect_seq p (.inl rfl) ho hc hd (fun h' hk => by simpa using h h' s.toks vs its hk r rr hl) (by simpa using hl)
  · rename_i m
    obtain ⟨p, es, ep, rfl, h1, r, h3, h4⟩ := q
    cases rv
    obtain ⟨o, ho, hx, hd⟩ := dO_raw I h1
    refine PySem.W.kdu_collect (L2.kdl_raw h3 hx hd) hh ho h4.1 fun h' tk acc hk it => ?_
    obtain ⟨kvs, k1, k2⟩ := RpD.keysL r
    have e2 := items_keys it
    refine h h' tk kvs acc.toList hk k1 (by rw [e2]; exact k2) ?_
    rw [Array.length_toList, it.1]
    exact h4.1
theorem c_listD (F : Fit N X) : CV1 N X (.type "list") (fun a => match a with | .dct l => some (.lst (l.map (·.1))) | _ => none) := by
  intro pins s σ Z c st H a v u y I R q rv e
  cases a <;> first | cases e | skip
  rename_i m
  obtain ⟨p, es, ep, rfl, h1, r, h3, h4⟩ := q
  cases rv
  obtain ⟨o, ho, hx, hd⟩ := dO_raw I h1
  have hh : X.A.handled = none := F.hd
  refine PySem.W.kdl_call (L2.kdl_raw h3 hx hd) hh ho h4.1 fun h' tk acc c' kp e it => ?_
  obtain ⟨kvs, k1, k2⟩ := RpD.keysL r
  have e2 := items_keys it
  have hz : kvs.length ≤ sizeLine := by rw [k2.length, ← e2, Array.length_toList, it.1]; exact h4.1
  obtain ⟨Z', x, R2, q2⟩ := Got.lst R k1 (p := s.heap.objs.size) (I.hok.fresh (Nat.le_refl _))
  exact ⟨Z', _, .ref s.heap.objs.size, I.laid (t' := tk) (o := .lst kvs) kp (Nat.le_refl _) ⟨hz, acc.toList, c', by rw [e2]; exact k2, by rw [Array.toArray_toList]; exact e⟩, x, R2, rfl, q2⟩
theorem b_list' (F : Fit N X) : CallV N X (.type "list") bListD := CallV.or (b_list F) ((c_listD F).v (f := fun l => match l with | [.dct l] => some (.lst (l.map (·.1))) | _ => none) fun l y e => by
  split at e
  · exact ⟨_, rfl, e⟩
  · cases e) fun l y e => by
  unfold bListD at e
  split at e
  · exact .inr e
  · exact .inl e

/-! ### the keys are asked -/
/-- the states within a sort: the list that is sorted stands empty at a, the keys so far at kS -/
def SortAt (N : Nm) (O : Orc) (X : Cx) (f : Nat) (pins : List (Addr × Obj)) (σ : Sl) (Z : Hp) (c : List Addr) (H : Hp) (a kS : Addr) (e1 : Nat) (l : List A) (Q : List A → Hp → List Addr → Hp → Prop) (i : Nat) (s : Shared) : Prop :=
  ∃ Z' c' st' H' kA e ks kvs, Inv X (pins ++ [(a, seqObj "list" #[] e1), (kS, seqObj "list" kA e)]) σ H' s ∧ RelH N Z' c' st' H' ∧ Ext Z c H Z' c' H' ∧ RpL N Z' ks kvs ∧ Vals kvs kA.toList ∧ kA.size = i ∧ Outc N NoX σ Z' c' H' ((keysGo O f (l.drop i) st').quiet) fun ks' Z'' c'' H'' => Q (ks ++ ks') Z'' c'' H''
theorem cx_never {P : Program} {w : World} {out : List PySem.Env} {H : Hp} {s : Shared} {e : Value} {s' : Shared} (h : L2.CX P w out H s (fun _ _ _ => False) e s') : False := by
  obtain ⟨_, _, _, _, _, _, _, _, _, _, _, _, h⟩ := h
  exact h

/-- the sort's own two objects stand apart -/
def ApartX (X : Cx) (pins : List (Addr × Obj)) (b : Addr) : Prop := b ≠ X.env.locals ∧ b ∉ X.fs ∧ (b ∈ X.ex ∨ X.s_0.heap.objs.size ≤ b) ∧ (∀ x c, X.env.cells.lookup x = some c → c ≠ b) ∧ ∀ p ∈ X.pn ++ pins, p.1 ≠ b
theorem pin2 {pins : List (Addr × Obj)} {σ : Sl} {H : Hp} {s : Shared} {a kS : Addr} {oa ok : Obj} (I : Inv X pins σ H s) (ha : ApartX X pins a) (hk : ApartX X pins kS) (na : H a = none) (nk : H kS = none) (ea : s.heap.get? a = some oa) (ek : s.heap.get? kS = some ok) (da : ∀ v, oa.data ≠ .cell v) (dk : ∀ v, ok.data ≠ .cell v) :
    Inv X (pins ++ [(a, oa), (kS, ok)]) σ H s := by
  refine I.pins_of fun p hp => ?_
  rcases List.mem_append.mp hp with h | h
  · exact I.pin p (List.mem_append_right _ h)
  · have e : p = (a, oa) ∨ p = (kS, ok) := by simpa using h
    rcases e with rfl | rfl
    · exact ⟨ea, na, ha.1, ha.2.1, da⟩
    · exact ⟨ek, nk, hk.1, hk.2.1, dk⟩
theorem keys_ok (F : Fit N X) {lv i : Nat} {fa : Addr} {fd : FuncData} {ps : List PySem.Str} (hl : ps.length = 1) (Fn : Fk X.prog X.w X.K X.mg X.base lv fa fd ps (spOf N O i 1)) (rm : Room lv X.A.in1.in1) (bd : Binds X.K fd ps [])
    {pins : List (Addr × Obj)} {σ : Sl} {Z c st H} {a kS : Addr} {e1 : Nat} {b : Bool} {l : List A} {vl : List V} {us : List Value} {Q : List A → Hp → List Addr → Hp → Prop} {P : PySem.Fin → Shared → Prop} {E : Value → Shared → Prop} {s : Shared}
    (hka : kS ≠ a) (apa : ApartX X pins a) (apk : ApartX X pins kS) (rl : RpL N Z l vl) (rv : Vals vl us) (hz : us.length ≤ sizeLine)
    (I : Inv X pins σ H s) (R : RelH N Z c st H) (na : s.heap.get? a = some (seqObj "list" #[] e1)) (nk : s.heap.get? kS = some (seqObj "list" #[] 0)) (ha : H a = none) (hk : H kS = none)
    (h : Outc N NoX σ Z c H (keysGo O i l st).quiet Q)
    (done : ∀ s' kA e ks kvs Z' c' st' H', Inv X pins σ H' s' → RelH N Z' c' st' H' → Ext Z c H Z' c' H' → RpL N Z' ks kvs → Vals kvs kA.toList → kA.size = l.length → s'.heap.get? a = some (seqObj "list" #[] e1) → s'.heap.get? kS = some (seqObj "list" kA e) → H' a = none → H' kS = none → Q ks Z' c' H' →
      wpAny (model X.prog X.w) X.A.in1.in1 (ksk_end a b us.toArray e1 (.ref kS) kA) P E s') :
    wpAny (model X.prog X.w) X.A.in1.in1 (ksk_rest a (.ref fa) b us.toArray e1 (.ref kS)) P E s := by
  have hlen : l.length = us.length := by rw [rl.length, rv.length]
  unfold ksk_rest
  refine wpAny_bind (wpAny_rule ?_)
  first
    | rw [List.forIn_toArray]
    | (rw [← Array.forIn_toList]; simp only [List.toList_toArray])
    | rw [← Array.forIn_toList]
  refine wpAny_bind (ksk_fold (SortAt N O X i pins σ Z c H a kS e1 l Q) us 0 s ⟨Z, c, st, H, #[], 0, [], [], pin2 I apa apk ha hk na nk (fun v z => nomatch z) (fun v z => nomatch z), R, Ext.refl .., .nil, .nil, rfl, by simpa using h⟩ ?step ?done)
  case step =>
    rintro j x s' hx ⟨Z', c', st', H', kA, e, ks, kvs, I', R', x', rk, vk, hsz, h'⟩
    simp only [Nat.zero_add] at hsz h' ⊢
    have hj : j < us.length := (List.getElem?_eq_some_iff.mp hx).1
    have hlj : j < l.length := by omega
    have ed : l.drop j = l[j] :: l.drop (j + 1) := List.drop_eq_getElem_cons hlj
    rw [ed] at h'
    simp only [keysGo, quiet_bind] at h'
    obtain ⟨xv, hxv, rxv⟩ := rl.get (List.getElem?_eq_getElem hlj)
    obtain ⟨u0, hu0, ru0⟩ := rv.get hxv
    rw [hx] at hu0
    cases hu0
    have hpa := I'.pin (a, seqObj "list" #[] e1) (by simp)
    have hpk := I'.pin (kS, seqObj "list" kA e) (by simp)
    have sp : spOf N O i 1 [xv] H' (fun v H'' => ∃ Z'' c'' st'' k, Ext Z' c' H' Z'' c'' H'' ∧ RelH N Z'' c'' st'' H'' ∧ Rp N Z'' k v ∧ Outc N NoX σ Z'' c'' H'' (keysGo O i (l.drop (j + 1)) st'').quiet fun ks' Z3 c3 H3 => Q (ks ++ [k] ++ ks') Z3 c3 H3) (fun _ _ _ => False) := by
      refine ⟨Z', c', st', [.v l[j]], rfl, R', .cons (rxv.mono x'.zz) .nil, ?_⟩
      have h2 := Outc.unquiet (Outc.quiet (Y' := fun cls d _ H => False) (σ' := []) h'.bind)
      refine Outc.mono h2 (Ext.refl ..) fun w Z3 c3 H3 _ ⟨st3, R3, x3, h3⟩ v rw3 => ?_
      cases w with
      | cel _ => exact h3.elim
      | lam _ _ => exact h3.elim
      | v k =>
        simp only [PV.W.val, of_some, quiet_ok, bind_ok] at h3
        refine ⟨Z3, c3, st3, k, x3, R3, rw3, ?_⟩
        refine Outc.mono h3.bind (Ext.refl ..) fun ks' Z4 c4 H4 x4 ⟨st4, R4, _, h4⟩ => ?_
        simpa using h4.okk R4
    refine wpAny_bind (wpAny_attempt ?_)
    refine wpAny_call (codeAny_mono (Fn.goes X.A.in1.in1 X.stack s' H' ⟨[x], []⟩ [x] [xv] _ _ rm F.gu I'.env0.in1.in1 (bd s' [x] I'.kIn (by rw [hl]; rfl)) (.cons ru0 .nil) sp) fun r s2 q => ?_)
    match r, q with
    | .error e, q => exact (cx_never q).elim
    | .ok .next, q => exact q.elim
    | .ok .brk, q => exact q.elim
    | .ok .cont, q => exact q.elim
    | .ok (.ret u), q =>
      obtain ⟨kv, H2, I2, ru, Z2, c2, st2, k, x2, R2, rk2, h2⟩ := I'.after q
      have p2a := I2.pin (a, seqObj "list" #[] e1) (by simp)
      have p2k := I2.pin (kS, seqObj "list" kA e) (by simp)
      try dsimp only
      obtain ⟨ec, hc2⟩ : ∃ ec, (s2.heap.update kS (Obj.mapSeq (·.push u))).get? kS = some (seqObj "list" (kA.push u) ec) := ⟨_, get?_update_seq p2k.1 (·.push u)⟩
      have sb := Heap.SameBut.update s2.heap kS (Obj.mapSeq (·.push u))
      have hzA : kA.size ≤ sizeLine := by rw [hsz]; omega
      refine wpAny_bind (listUpdate_at p2k.1 rfl ?_ hzA (Nat.le_trans (Nat.le_of_eq (Array.size_push ..)) (Nat.succ_le_succ hzA)))
      have J : Inv X pins σ H2 s2 := I2.unpinned
      have J2 : Inv X pins σ H2 { s2 with heap := s2.heap.update kS (Obj.mapSeq (·.push u)) } := J.turnedL (t' := s2.toks) (ch := [kS]) (fun b o hb q => (sb.2 b (by simpa using hb)).trans q) fun b hb => by
        have eb : b = kS := by simpa using hb
        subst eb
        exact ⟨p2k.2.1, apk.1, apk.2.1, apk.2.2.1, apk.2.2.2.1, apk.2.2.2.2⟩
      refine wpAny_pure ⟨rfl, Z2, c2, st2, H2, kA.push u, ec, ks ++ [k], kvs ++ [kv], pin2 J2 apa apk p2a.2.1 p2k.2.1 ((sb.2 a hka.symm).trans p2a.1) hc2 (fun v z => nomatch z) (fun v z => nomatch z), R2, x'.trans x2, (rk.mono x2.zz).append (.cons rk2 .nil), ?_, ?_, h2⟩
      · have e3 : (kA.push u).toList = kA.toList ++ [u] := by simp
        rw [e3]
        exact vk.append (.cons ru .nil)
      · rw [Array.size_push, hsz]
  case done =>
    rintro s' ⟨Z', c', st', H', kA, e, ks, kvs, I', R', x', rk, vk, hsz, h'⟩
    simp only [Nat.zero_add] at hsz h'
    have hpa := I'.pin (a, seqObj "list" #[] e1) (by simp)
    have hpk := I'.pin (kS, seqObj "list" kA e) (by simp)
    rw [List.drop_eq_nil_of_le (by omega)] at h'
    have q := (show Outc N NoX σ Z' c' H' (Res.ok ([] : List A) st') _ from h').okk R'
    try dsimp only
    refine wpAny_bind (listItems_at hpk.1 rfl ?_)
    exact done s' kA e ks kvs Z' c' st' H' I'.unpinned R' x' rk vk (by omega) hpa.1 hpk.1 hpa.2.1 hpk.2.1 (by simpa using q)

/-- an untracked young object is taken up -/
theorem inv_adopt {pins : List (Addr × Obj)} {σ : Sl} {H : Hp} {s : Shared} {h' : Heap} {t' : Nat} {a kS : Addr} {ob : HO} (I : Inv X pins σ H s) (ha : ApartX X pins a) (hk : ApartX X pins kS) (na : H a = none) (nk : H kS = none)
    (keep : ∀ b o, b ≠ a → b ≠ kS → s.heap.get? b = some o → h'.get? b = some o) (new : ObjOk X.prog X.w (upd H a ob) h' a ob) : Inv X pins σ (upd H a ob) { s with heap := h', toks := t' } := by
  have ne : ∀ b u, H b = some u → b ≠ a ∧ b ≠ kS := fun b u e => ⟨ne_of_none e na, ne_of_none e nk⟩
  have kp : ∀ b o, b ∉ [a, kS] → s.heap.get? b = some o → h'.get? b = some o := fun b o hb e => keep b o (fun z => hb (by simp [z])) (fun z => hb (by simp [z])) e
  refine I.step (g' := s.gens) (d' := s.drawn) (t' := t') (ch := [a, kS]) (fun b hb => ?_) (fun b o _ _ hc e _ => kp b o hc e) (fun b o _ _ hc e _ => ⟨o.slots, kp b o hc e⟩) (fun b o hb e n => ?_) (fun b o hc e => ⟨o, kp b o hc e⟩) (fun b xs e => ?_) (fun b o u e => ?_) (fun b ps e => ⟨#[], ?_⟩) (fun m hm => ?_) (fun b u e => ?_) I.bare
  · have e : b = a ∨ b = kS := by simpa using hb
    rcases e with rfl | rfl
    · exact ⟨ha.2.2.1, ha.1, ha.2.2.2.1, ha.2.2.2.2⟩
    · exact ⟨hk.2.2.1, hk.1, hk.2.2.2.1, hk.2.2.2.2⟩
  · rw [upd_ne (fun z => hb (by simp [z]))]; exact n
  · rw [upd_ne (ne b _ e).1]; exact e
  · rw [upd_ne (ne b _ e).1]; exact e
  · rw [upd_ne (ne b _ e).1, e]; simp
  · obtain ⟨o, es, ep, ho, r⟩ := hm
    exact ⟨o, es, ep, keep _ o ha.1.symm hk.1.symm ho, r⟩
  · by_cases hb : b = a
    · subst hb
      rw [upd_same] at e
      cases e
      exact new
    · rw [upd_ne hb] at e
      refine (I.hok b u e).stay (fun c v hc q => ?_) (fun c q => by rw [upd_ne (ne c _ q).1]; exact q) fun c xs q => by rw [upd_ne (ne c _ q).1]; exact q
      rcases hc with z | z
      · rw [z] at q ⊢; exact keep b v (ne b _ e).1 (ne b _ e).2 q
      · exact keep c v (ne c _ z).1 (ne c _ z).2 q
theorem zip_each {Z} : ∀ {ks l : List A} {vl : List V} {us : List Value}, RpL N Z l vl → Vals vl us → ks.length = l.length → PySem.W.EachIs (fun (u : Value) (p : A × A) => ∃ v, RelV v u ∧ Rp N Z p.2 v) us (ks.zip l)
  | [], _, _, _, .nil, .nil, _ => .nil
  | k :: ks, _, _, _, .cons a r, .cons b q, h => .cons ⟨_, b, a⟩ (zip_each r q (by simpa using h))
theorem each_snd {Z} : ∀ {ps : List (A × A)} {us : List Value}, PySem.W.EachIs (fun (u : Value) (p : A × A) => ∃ v, RelV v u ∧ Rp N Z p.2 v) us ps → ∃ vs, RpL N Z (ps.map (·.2)) vs ∧ Vals vs us
  | _, _, .nil => ⟨[], .nil, .nil⟩
  | _, _, .cons ⟨v, r, q⟩ e => let ⟨vs, h1, h2⟩ := each_snd e; ⟨v :: vs, .cons q h1, .cons r h2⟩
theorem dataLe_zip : PySem.W.dataLe false (fun p : A × A => p.1.py) = fun p q => !A.lt q.1 p.1 := by
  funext p q
  show (!lexLt itemOrd (PySem.W.keyToks q.1.py) (PySem.W.keyToks p.1.py)) = _
  rw [lexS_eq, py_toks, py_toks]
  rfl
theorem map_zip_fst {ks l : List A} (h : ks.length = l.length) : (ks.zip l).map (fun p => p.1.py) = ks.map A.py := by
  have : (ks.zip l).map (fun p => p.1.py) = ((ks.zip l).map Prod.fst).map A.py := by rw [List.map_map]; rfl
  rw [this, List.map_fst_zip (by omega)]
/-- the sort, its keys at hand -/
theorem sort_end (F : Fit N X) {pins : List (Addr × Obj)} {σ : Sl} {Z c st H} {a kS : Addr} {e1 e : Nat} {l ks : List A} {vl kvs : List V} {us : List Value} {kA : Array Value} {s : Shared} {E : Value → Shared → Prop} {P : PySem.Fin → Shared → Prop}
    (hka : kS ≠ a) (apa : ApartX X pins a) (apk : ApartX X pins kS) (rl : RpL N Z l vl) (rv : Vals vl us) (hz : us.length ≤ sizeLine) (I : Inv X pins σ H s) (R : RelH N Z c st H) (rk : RpL N Z ks kvs) (vk : Vals kvs kA.toList) (hsz : kA.size = l.length)
    (na : s.heap.get? a = some (seqObj "list" #[] e1)) (nk : s.heap.get? kS = some (seqObj "list" kA e)) (ha : H a = none) (hk : H kS = none) (hf : flat (.lst ks) = true) (hs : sortable ks = true)
    (h : ∀ s', PostV N X pins σ Z c st H (.lst (sortBy ks l)) (.ref a) s' → P (.done (.ret .none)) s') : wpAny (model X.prog X.w) X.A.in1.in1 (ksk_end a false us.toArray e1 (.ref kS) kA) P E s := by
  obtain ⟨d, hdep⟩ := flat_ok hf
  have d' : A.dataL ks = true := by simpa [A.data] using d
  obtain ⟨hal, hsk⟩ := sortable_ok hs d'
  have hlk : ks.length = l.length := by rw [rk.length, vk.length, Array.length_toList, hsz]
  have hlu : l.length = us.length := by rw [rl.length, rv.length]
  obtain ⟨G, g1, g2⟩ := L2.restrict s.heap fun b => decide (b ≠ kS)
  have er := each_reads F I R.sub rk vk d'
  have er2 : PySem.W.EachIs (fun v k => ∃ as, Reads s.heap v k as) kA.toList (ks.map A.py) := PySem.W.each_map (R := fun v d => ∃ as, Reads s.heap v d as) A.py er
  have hu : ∀ p, p ∈ ks.map A.py → X.A.in1.in1.units + p.depth < cLine := fun p hp => by
    obtain ⟨k, hk, rfl⟩ := List.mem_map.mp hp
    have q1 := depL_mem hk
    have q2 := F.units
    simp only [A.dep] at hdep
    rw [py_dep]
    show X.A.units + 1 + 1 + k.dep < cLine
    omega
  refine PySem.W.keyH_end (κ := PySem.W.dataKind s.heap (ks.map A.py)) (h₁ := G) (fun b o hb q => ?_) (g2 kS (by simp)) nk na hka (PySem.W.SortsAt.data (A := X.A.in1.in1) (s := s) er2 hal hsk hu) (by rw [hsz, hlu]) hz fun h3 tk3 c3 k3 n3 => ?_
  · by_cases hb2 : b = kS
    · subst hb2; rw [g2 b (by simp)] at q; cases q
    · rw [g1 b (by simp [hb2])] at q; exact q
  · have ko : PySem.W.KeyedOut false ((ks.zip l).map fun p => p.1.py) us (PySem.W.sortVals (PySem.W.dataKind s.heap (ks.map A.py)) false kA.toList us) := by
      rw [map_zip_fst hlk]
      exact ⟨s.heap, kA.toList, hal, rfl, er2⟩
    have eo := PySem.W.keyedOut_each (fun p : A × A => p.1.py) ko (zip_each rl rv hlk)
    rw [dataLe_zip] at eo
    obtain ⟨ws, w1, w2⟩ := each_snd eo
    have hlo : ws.length ≤ sizeLine := by
      rw [← w1.length, List.length_map, List.length_mergeSort, List.length_zip]
      omega
    obtain ⟨Z', x, R2, q2⟩ := Got.lst R w1 ha
    refine h _ ⟨Z', _, .ref a, inv_adopt (ob := .lst ws) I apa apk ha hk (fun b o h1 h2 q => k3 b o h1 (by rw [g1 b (by simp [h2])]; exact q)) ⟨hlo, _, c3, w2, n3⟩, x, R2, rfl, q2⟩

/-- a callee that is asked for keys -/
structure KeyFn (N : Nm) (O : Orc) (X : Cx) (i : Nat) (fa : Addr) : Prop where
  ex : ∃ lv fd ps, ps.length = 1 ∧ Fk X.prog X.w X.K X.mg X.base lv fa fd ps (spOf N O i 1) ∧ Room lv X.A.in1.in1 ∧ Binds X.K fd ps []
theorem sortK_ok {ks l : List A} {st : Sto} {Y : WX} {σ Z c H} {Q : PV.W → Hp → List Addr → Hp → Prop} (h : Outc N Y σ Z c H (sortK ks l st) Q) : flat (.lst ks) = true ∧ sortable ks = true ∧ Outc N Y σ Z c H (Res.ok (W.v (.lst (sortBy ks l))) st) Q := by
  unfold sortK at h
  cases e : flat (.lst ks) && sortable ks with
  | false => rw [e] at h; exact h.elim
  | true =>
    rw [e] at h
    simp only [Bool.and_eq_true] at e
    exact ⟨e.1, e.2, h⟩
theorem sorted_call (F : Fit N X) {i : Nat} {fa : Addr} (K : KeyFn N O X i fa) {Y : WX} {pins : List (Addr × Obj)} {σ : Sl} {Z c st H a v u l s} {Q : VK} (I : Inv X pins σ H s) (R : RelH N Z c st H) (q : Vw N Z H a v) (rv : RelV v u) (e : collA a = some l)
    (h : Outc N Y σ Z c H ((keysGo O i l st).quiet.bind fun ks st3 => sortK ks l st3) fun w Z' c' H' => ∀ v, RpW N Z' c' w v → Q v H') :
    wpAny (model X.prog X.w) X.A (call (.builtin "sorted") [u] [(Str.ofString "key", .ref fa)]) (EP X pins σ Q) X.xe s := by
  obtain ⟨lv, fd, ps, hps, Fn, rm, bd⟩ := K.ex
  refine call_function_entry_kw kind_sorted plain_sorted entry_sorted (ksk_s1 _ _) ?_
  unfold Builtin.«sorted»
  refine wpAny_bind (m := checkCount "sorted" 1 1 _) (wpAny_pure ?_)
  refine wpAny_bind (coll_ok F (A' := X.A.in1) F.hd I R q rv e fun h1 tk1 vl us k1 rl rus hz => ?_)
  have I1 : Inv X pins σ H { s with heap := h1, toks := tk1 } := I.kept k1
  refine wpAny_bind (wpAny_newList ?_ hz)
  generalize hL : h1.objs.size = La
  have I2 : Inv X pins σ H { s with heap := h1.push (seqObj "list" us.toArray 0), toks := tk1 } := I1.kept (t' := tk1) fun b o q => Heap.get?_push_of_some _ q
  have apa : FpOk X pins H La := I1.fpOk (Nat.le_of_eq hL) (I1.hok.fresh (Nat.le_of_eq hL))
  have oa : (h1.push (seqObj "list" us.toArray 0)).get? La = some (seqObj "list" us.toArray 0) := by rw [← hL]; exact Heap.get?_push_size _ rfl
  refine wpAny_bind (wpAny_holding (wpAny_call_entry_kw slot_list_sort ⟨_, oa, rfl⟩ entry_list_sort ?body (ksk_l1 _ _)))
  case body =>
    show wpAny (model X.prog X.w) X.A.in1.in1 (Builtin.«list.sort» ⟨[.ref La], [(Str.ofString "key", .ref fa)]⟩) _ _ _
    rw [ksk_t1]
    unfold ksk_tree
    refine wpAny_bind (listItems_at oa rfl ?_)
    refine wpAny_bind (listUpdate_at oa rfl ?_ (by rw [List.size_toArray]; exact hz) (Nat.zero_le _))
    obtain ⟨e1, oa1⟩ : ∃ e1, ((h1.push (seqObj "list" us.toArray 0)).update La (Obj.mapSeq fun _ => (#[] : Array Value))).get? La = some (seqObj "list" #[] e1) := ⟨_, get?_update_seq oa fun _ => #[]⟩
    have sb := Heap.SameBut.update (h1.push (seqObj "list" us.toArray 0)) La (Obj.mapSeq fun _ => (#[] : Array Value))
    generalize hh3 : (h1.push (seqObj "list" us.toArray 0)).update La (Obj.mapSeq fun _ => (#[] : Array Value)) = h3 at oa1 sb
    have I3 : Inv X pins σ H { s with heap := h3, toks := tk1 } := Inv.turnedL (s := { s with heap := h1.push (seqObj "list" us.toArray 0), toks := tk1 }) (t' := tk1) (ch := [La]) I2 (fun b o hb q => (sb.2 b (by simpa using hb)).trans q) fun b hb => by
      have eb : b = La := by simpa using hb
      subst eb
      exact apa
    refine wpAny_bind (seqEpoch_at oa1 rfl ?_)
    refine wpAny_bind (wpAny_newTuple ?_ (by simpa using hz))
    have I4 : Inv X pins σ H { s with heap := h3.push (seqObj "tuple" us.toArray 0), toks := tk1 } := Inv.kept (s := { s with heap := h3, toks := tk1 }) (t' := tk1) I3 fun b o q => Heap.get?_push_of_some _ q
    refine wpAny_bind (wpAny_newList ?_ (Nat.zero_le _))
    try simp only [List.toArray_toList]
    generalize hh4 : h3.push (seqObj "tuple" us.toArray 0) = h4 at I4
    have o4 : h4.get? La = some (seqObj "list" #[] e1) := by rw [← hh4]; exact Heap.get?_push_of_some _ oa1
    have apk : FpOk X pins H h4.objs.size := I4.fpOk (Nat.le_refl _) (I4.hok.fresh (Nat.le_refl _))
    have I5 : Inv X pins σ H { s with heap := h4.push (seqObj "list" #[] 0), toks := tk1 } := Inv.kept (s := { s with heap := h4, toks := tk1 }) (t' := tk1) I4 fun b o q => Heap.get?_push_of_some _ q
    have hne : h4.objs.size ≠ La := Ne.symm (Nat.ne_of_lt (Heap.lt_size o4))
    have e4 : (seqObj "tuple" us.toArray 0) = { cls := .type "tuple", data := .seq us.toArray } := rfl
    refine wpAny_holding ?_
    have hh4' : h3.push { cls := .type "tuple", data := .seq us.toArray } = h4 := hh4
    refine wpAny_mono (Q := fun fin s' => fin = PySem.Fin.done (.ret .none) ∧ EP X pins σ Q (.ref La) s') ?_ (fun fin s' hp => ?_) fun _ _ e => e
    · refine keys_ok (b := false) (Q := fun ks Z1 c1 H1 => ∃ st1, RelH N Z1 c1 st1 H1 ∧ Ext Z c H Z1 c1 H1 ∧ Outc N Y σ Z1 c1 H1 (sortK ks l st1) fun w Z' c' H' => ∀ v, RpW N Z' c' w v → Q v H')
        F hps Fn rm bd (a := La) (kS := h4.objs.size) (e1 := e1) hne ⟨apa.2.1, apa.2.2.1, apa.2.2.2.1, apa.2.2.2.2.1, apa.2.2.2.2.2⟩ ⟨apk.2.1, apk.2.2.1, apk.2.2.2.1, apk.2.2.2.2.1, apk.2.2.2.2.2⟩ rl rus hz I5 R (Heap.get?_push_of_some _ o4) (Heap.get?_push_size _ rfl) apa.1 apk.1 (Outc.quiet h.bind)
        fun s' kA e ks kvs Z' c' st' H' I' R' x' rk vk hsz na nk ha hk q => ?_
      obtain ⟨st1, R1, _, q1⟩ := q
      obtain ⟨f1, f2, q2⟩ := sortK_ok q1
      exact sort_end F hne ⟨apa.2.1, apa.2.2.1, apa.2.2.2.1, apa.2.2.2.2.1, apa.2.2.2.2.2⟩ ⟨apk.2.1, apk.2.2.1, apk.2.2.2.1, apk.2.2.2.2.1, apk.2.2.2.2.2⟩ (rl.mono x'.zz) rus hz I' R1 rk vk hsz na nk ha hk f1 f2 fun s2 p => ⟨rfl, p.ep q2⟩
    · obtain ⟨rfl, hq⟩ := hp
      exact ⟨_, rfl, wpAny_pure ⟨_, rfl, hq⟩⟩
/-- sorted(e, key=f) -/
theorem snd_sortK (F : Fit N X) {i : Nat} {fa : Addr} (K : KeyFn N O X i fa) {fx : PySem.Str} {e : Expr} {x : Ex} {p fp kp pos : Pos} (hg : Gl X "sorted") (hm : X.mg "sorted" = none) (hgf : Gl X fx) (hmf : X.mg fx = some (.ref fa)) (hdf : (fx == ("__debug__" : PySem.Str)) = false) (hs : isStar e = false) (he : SndE N O X e x) :
    SndE N O X (.Call (.Name "sorted" p) [e] [⟨some (Str.ofString "key"), .Name fx fp, kp⟩] pos) (eSortK i x) := by
  intro Y tk env st σ Z c H R E Q h pins s I
  refine wpAny_Call_Name_kw (ld_blt I hg hm (by decide +kernel : bootBuiltins "sorted" = some (.builtin "sorted")) ?_)
  have key : WA X [e] σ H fun vs H1 => ∃ v, vs = [v] ∧ ∃ Z1 c1 st1 a l, RelH N Z1 c1 st1 H1 ∧ Vw N Z1 H1 a v ∧ collA a = some l ∧ Outc N Y σ Z1 c1 H1 ((keysGo O i l st1).quiet.bind fun ks st3 => sortK ks l st3) fun w Z' c' H' => ∀ v, RpW N Z' c' w v → Q v H' :=
    args1 hs he tk R E (show Outc N Y σ Z c H ((x O env st).bind _) _ from h) fun w st1 Z1 c1 H1 v x1 R1 rv h1 => by
      cases ev : vw st1 w with
      | none => rw [ev] at h1; exact h1.elim
      | some a =>
        rw [ev] at h1
        simp only [Option.bind_some] at h1
        cases ec : collA a with
        | none => rw [ec] at h1; exact h1.elim
        | some l =>
          rw [ec] at h1
          exact ⟨Z1, c1, st1, a, l, R1, vw_ok R1 rv ev, ec, h1⟩
  refine PyProof.Rows.callWith_kw (thn (key pos pins s I) fun us s1 ⟨vs, H1, I1, r1, v, ev, Z1, c1, st1, a, l, R1, q1, ec, h1⟩ => ?_) (by rw [star_no hs]; rfl) (no_star _ _ _ (by simp [hs])) rfl rfl
  subst ev
  cases r1 with
  | cons rv rn =>
    cases rn
    refine thn ((L2.pk_cons (nm := some (Str.ofString "key")) (kpos := kp) (L2.pe_glob (v := .ref fa) hgf hmf rfl hdf) L2.pk_nil).run pos pins s1 σ H1 (fun zs H2 => zs = [.ref fa] ∧ H2 = H1) I1 ?_) ?_
    · exact ⟨rfl, rfl⟩
    · rintro ws s2 ⟨zs, H2, I2, r2, rfl, rfl⟩
      cases r2 with
      | cons ru rn =>
        cases rn
        cases ru
        exact sorted_call F K I2 R1 q1 rv ec h1
/-- sorted(x) -/
theorem b_sortedC (F : Fit N X) : CallV N X (.builtin "sorted") bSortedC := by
  have c1 : CV1 N X (.builtin "sorted") fun a => bSortedC [a] := by
    intro pins s σ Z c st H a v u y I R q rv e
    have e : ((collA a).bind fun l => if flat (.lst l) && sortable l then some (A.lst (sortA l)) else none) = some y := e
    cases ec : collA a with
    | none => rw [ec] at e; cases e
    | some l =>
      rw [ec, Option.bind_some] at e
      cases hfs : flat (.lst l) && sortable l with
      | false => rw [hfs] at e; cases e
      | true =>
        rw [hfs] at e
        cases e
        simp only [Bool.and_eq_true] at hfs
        obtain ⟨dd, hdep⟩ := flat_ok hfs.1
        have d' : A.dataL l = true := by simpa [A.data] using dd
        obtain ⟨hal, hk⟩ := sortable_ok hfs.2 d'
        refine call_function_entry_kw kind_sorted plain_sorted entry_sorted (PyProof.Rows.args_sorted1 _) ?_
        unfold Builtin.«sorted»
        refine wpAny_bind (m := checkCount "sorted" 1 1 _) (wpAny_pure ?_)
        refine wpAny_bind (coll_ok F (A' := X.A.in1) F.hd I R q rv ec fun h1 tk1 vl us k1 rl rus hz => ?_)
        refine wpAny_bind (wpAny_newList ?_ hz)
        have I1 : Inv X pins σ H { s with heap := h1, toks := tk1 } := I.kept k1
        generalize hL : h1.objs.size = La
        have hl2 := rl.length
        have hl3 := rus.length
        have oa : (h1.push (seqObj "list" us.toArray 0)).get? La = some (seqObj "list" us.toArray 0) := by rw [← hL]; exact Heap.get?_push_size _ rfl
        have old1 : ∀ b o, h1.get? b = some o → (PySem.W.sortingHeap (h1.push (seqObj "list" us.toArray 0)) La us).get? b = some o := fun b o e => PySem.W.sortingHeap_old (by rw [← hL]; exact Nat.ne_of_lt (Heap.lt_size e)) (Heap.get?_push_of_some _ e)
        have er := each_reads F I1 R.sub rl rus d'
        have er' : PySem.W.EachIs (fun v b => ∃ as, Reads (PySem.W.sortingHeap (h1.push (seqObj "list" us.toArray 0)) La us) v (A.py b) as) us l := er.mono fun _ _ ⟨as, r⟩ => ⟨as, PyProof.Rows.Reads.keeps old1 r⟩
        refine wpAny_bind (wpAny_holding (wpAny_call_entry_kw slot_list_sort ⟨_, oa, rfl⟩ entry_list_sort ?body (PyProof.Rows.args_list_sort _)))
        case body =>
          show wpAny (model X.prog X.w) X.A.in1.in1 (Builtin.«list.sort» ⟨[.ref La], []⟩) _ _ _
          refine wpAny_mono (Q := fun fin s' => fin = PySem.Fin.done (.ret .none) ∧ PostV N X pins σ Z c st H (.lst (sortA l)) (.ref La) s') ?_ (fun fin s' hp => ?_) fun _ _ e => e
          · refine PySem.W.list_sort_vals (s := { s with heap := h1.push (seqObj "list" us.toArray 0), toks := tk1 }) oa (PySem.W.SortsAt.data (s := { s with heap := PySem.W.sortingHeap (h1.push (seqObj "list" us.toArray 0)) La us, toks := tk1 }) (PySem.W.each_map (R := fun v d => ∃ as, Reads (PySem.W.sortingHeap (h1.push (seqObj "list" us.toArray 0)) La us) v d as) A.py er') hal hk (PySem.W.bound_map fun b hb => ?_)) hz ⟨rfl, ?_⟩
            · have := depL_mem hb
              have := F.units
              simp only [A.dep] at hdep
              rw [py_dep]
              show X.A.units + 2 + b.dep < _
              omega
            · have eo := PySem.W.sortVals_data (R := fun u a => ∃ v, RelV v u ∧ Rp N Z a v) false (each_rp rl rus) er' hal
              rw [dataLe_eq] at eo
              obtain ⟨ws, w1, w2⟩ := each_back eo
              obtain ⟨ep, he⟩ := PyProof.Rows.sortedHeap_at (out := (PySem.W.sortVals _ false us us).toArray) oa
              have hlen : ws.length ≤ sizeLine := by
                rw [← w1.length, List.length_mergeSort, hl2, hl3]
                exact hz
              obtain ⟨Z', x, R2, q2⟩ := Got.lst R w1 (p := La) (I1.hok.fresh (Nat.le_of_eq hL))
              refine ⟨Z', _, .ref La, I1.laid (t' := tk1) (o := .lst ws) (fun b o e1 => ?_) (Nat.le_of_eq hL) ⟨hlen, _, ep, w2, he⟩, x, R2, rfl, q2⟩
              have hb := Heap.lt_size e1
              rw [PyProof.Rows.sortedHeap_old (by rw [← hL]; exact Nat.ne_of_lt hb) (by rw [PyProof.Rows.size_push']; exact Nat.lt_succ_of_lt hb)]
              exact Heap.get?_push_of_some _ e1
          · obtain ⟨rfl, hq⟩ := hp
            exact ⟨_, rfl, wpAny_pure ⟨_, rfl, hq⟩⟩
  exact c1.v fun l y e => by
    unfold bSortedC at e
    split at e
    · exact ⟨_, rfl, e⟩
    · cases e
end
end PV
end
section
set_option linter.all false
set_option Elab.async false
set_option maxRecDepth 100000
set_option maxHeartbeats 4000000
/-! PV15: comprehensions with two generators; comprehensions stored to names. -/
namespace PV
open PySem PySem.Spec PyProof.Rows L2
section
variable {N : Nm} {O : Orc} {X : Cx}
/-- what a walk's Ext means behind a loose thing -/
theorem ext_up {Z1 c1 H1 Z' c' H'} {D : Addr} {o : HO} (hD : H1 D = none) (hD' : H' D = some o) (x' : Ext Z1 c1 H1 Z' c' (PV.rm H' D)) : Ext Z1 c1 H1 Z' c' H' := by
  refine ⟨x'.zz, x'.new, fun p o e hp => ?_, x'.pre, fun p e => ?_⟩
  · have := x'.keep p o e hp
    by_cases hq : p = D
    · subst hq; rw [hD] at e; cases e
    · rwa [rm_ne hq] at this
  · have := x'.there p e
    by_cases hq : p = D
    · subst hq; rw [hD']; exact fun z => nomatch z
    · rwa [rm_ne hq] at this
theorem res_assoc {α β γ : Type} (r : Res α) (f : α → Sto → Res β) (g : β → Sto → Res γ) : (r.bind f).bind g = r.bind fun a st => (f a st).bind g := by
  cases r <;> rfl
theorem lc2_core' (F : Fit N X) {tg iter : Expr} {own : List (PySem.Str × Nat)} {vs1 : List Nat} {it it1 : PV.It} {g g1 : Tg} {t t1 : Te} {x : Ex}
    (hsl : ∀ i ∈ g.slots, i ∈ own.map (·.2)) (hsl1 : ∀ i ∈ g1.slots, i ∈ vs1) (hi : SndI N O X tg iter it)
    {tt tt1 : TT} {te : TE} {gg gg1 : TG} {wi1 : TI}
    (hgg : ∀ a v env env' st σ Z c H', RelH N Z c st H' → RelE N Z c env σ → Rp N Z a v → g.put a env = some env' → ∀ Q : Sl → Hp → Prop, (∀ σ', RelE N Z c env' σ' → Off g.slots σ σ' → Q σ' H') → gg v σ H' Q)
    (hgg1 : ∀ a v env env' st σ Z c H', RelH N Z c st H' → RelE N Z c env σ → Rp N Z a v → g1.put a env = some env' → ∀ Q : Sl → Hp → Prop, (∀ σ', RelE N Z c env' σ' → Off g1.slots σ σ' → Q σ' H') → gg1 v σ H' Q)
    (hwi : ∀ env st σ Z c H, RelH N Z c st H → RelE N Z c env σ → ∀ T : L2.It → Hp → Prop, Outc N NoX σ Z c H (it1 O env st) (ItPost N T) → wi1 σ H T)
    (htt : ∀ env st σ Z c H, RelH N Z c st H → RelE N Z c env σ → ∀ Q : Bool → Hp → Prop, Outc N NoX σ Z c H (t O env st) (fun b _ _ H' => Q b H') → tt σ H Q)
    (htt1 : ∀ env st σ Z c H, RelH N Z c st H → RelE N Z c env σ → ∀ Q : Bool → Hp → Prop, Outc N NoX σ Z c H (t1 O env st) (fun b _ _ H' => Q b H') → tt1 σ H Q)
    (hte : ∀ env st σ Z c H, RelH N Z c st H → RelE N Z c env σ → ∀ Q : VK, Outc N NoX σ Z c H (x O env st) (fun w Z' c' H' => ∀ v, RpW N Z' c' w v → Q v H') → te σ H Q)
    {Y : WX} (tk : Takes X Y) {env st σ Z c H} (R : RelH N Z c st H) (E : RelE N Z c env σ) {Q : VK}
    (h : Outc N Y σ Z c H (eLc2 it g (own.map (·.2)) t it1 g1 vs1 t1 x O env st) (fun w Z' c' H' => ∀ l vs p o, w = .v (.lst l) → o = HO.lst vs → H' p = none → vs.length ≤ sizeLine → RpL N Z' l vs → Q (.ref p) (upd H' p o))) :
    tLc2 (WI X tg iter) gg tt wi1 gg1 tt1 te (own.map (·.2)) vs1 σ H Q := by
  refine hi Y tk env st σ Z c H R E _ (Outc.mono (show Outc N Y σ Z c H ((it O env st).bind _) _ from h).bind (Ext.refl ..) fun p Z1 c1 H1 _ ⟨st1, R1, x1, h1⟩ J hJ hsz => ?_)
  obtain ⟨items, ok⟩ := p
  intro D hD
  cases hok : ok st1 with
  | false => simp only [hok] at h1; exact h1.elim
  | true =>
    simp only [hok, if_true] at h1
    have hz1 : Z1 D = none := by
      cases q : Z1 D with
      | none => rfl
      | some u => rw [R1.sub D u q] at hD; cases hD
    have hc1 : D ∉ c1 := fun hm => R1.tracked hm hD
    obtain ⟨_, R1'⟩ := ext_junk (o := HO.lst []) R1 hD
    have E1 := (E.mono x1).wipe (own.map (·.2))
    have h2 : Outc N NoX σ Z1 c1 H1 (lcGo2 O g t it1 g1 vs1 t1 x (PV.wipe env (own.map (·.2))) ok 0 items st1).quiet fun ys Z' c' H' => ∀ vs, H' D = none → vs.length ≤ sizeLine → RpL N Z' ys vs → Q (.ref D) (upd H' D (HO.lst vs)) := by
      refine Outc.quiet (Y := Y) (σ := σ) (Outc.mono h1.bind (Ext.refl ..) fun ys Z' c' H' _ ⟨st2, R2, x2, h2⟩ vs hn hz rl => ?_)
      exact h2 Z' c' H' (Ext.refl ..) R2 ys vs D _ rfl rfl hn hz rl
    generalize PV.wipe env (own.map (·.2)) = env1 at E1 h2
    generalize hvs : own.map (·.2) = vs at *
    refine ⟨fun i m H' => ∃ st' Z' c' accA acc n, m = items.length - i ∧ i ≤ items.length ∧ RelH N Z' c' st' H' ∧ H' D = some (.lst acc) ∧ D ∉ c' ∧ Z' D = none ∧ Ext Z1 c1 H1 Z' c' (PV.rm H' D) ∧ ok st' = true ∧ RpL N Z' accA acc ∧ accA.length ≤ n ∧ n ≤ Sz ∧
      Outc N NoX σ Z' c' (PV.rm H' D) (lcGo2 O g t it1 g1 vs1 t1 x env1 ok n (items.drop i) st').quiet fun ys Z'' c'' H'' => ∀ vs, H'' D = none → vs.length ≤ sizeLine → RpL N Z'' (accA ++ ys) vs → Q (.ref D) (upd H'' D (HO.lst vs)),
      ⟨items.length, st1, Z1, c1, [], [], 0, rfl, Nat.zero_le _, R1', upd_same, hc1, hz1, by rw [rm_upd, rm_none hD]; exact Ext.refl .., hok, .nil, Nat.le_refl _, Nat.zero_le _, by rw [rm_upd, rm_none hD]; exact h2⟩, ?_⟩
    rintro i m H' ⟨st', Z', c', accA, acc, n, rfl, hil, R', hD', hc', hz', x', hok', ra, hal, hns, h'⟩
    have xx := ext_up hD hD' x'
    obtain ⟨w1, w2⟩ := hJ i Z' c' st' H' xx.e0 R' hok'
    cases ed : items.drop i with
    | nil =>
      rw [ed] at h'
      refine .inl ⟨w2 (Nat.le_antisymm hil (List.drop_eq_nil_iff.mp ed)), ?_⟩
      have q := h' Z' c' (PV.rm H' D) (Ext.refl ..) (relH_rm R' hc' hz') acc rm_same (by rw [← ra.length, sizeLine_eq]; exact Nat.le_trans hal hns) (by simpa using ra)
      rwa [upd_rm hD'] at q
    | cons a rest =>
      rw [ed] at h'
      obtain ⟨ea, er⟩ := getElem?_drop_cons ed
      have hlt : i < items.length := (List.getElem?_eq_some_iff.mp ea).1
      obtain ⟨go, yl⟩ := w1 a ea
      refine .inr ⟨go, fun H2 => ∃ m', m' < items.length - i ∧ ∃ st' Z' c' accA acc n, m' = items.length - (i + 1) ∧ i + 1 ≤ items.length ∧ RelH N Z' c' st' H2 ∧ H2 D = some (.lst acc) ∧ D ∉ c' ∧ Z' D = none ∧ Ext Z1 c1 H1 Z' c' (PV.rm H2 D) ∧ ok st' = true ∧ RpL N Z' accA acc ∧ accA.length ≤ n ∧ n ≤ Sz ∧
        Outc N NoX σ Z' c' (PV.rm H2 D) (lcGo2 O g t it1 g1 vs1 t1 x env1 ok n (items.drop (i + 1)) st').quiet fun ys Z'' c'' H'' => ∀ vs, H'' D = none → vs.length ≤ sizeLine → RpL N Z'' (accA ++ ys) vs → Q (.ref D) (upd H'' D (HO.lst vs)), fun H2 q => q, fun y H2 hy => ?_⟩
      obtain ⟨Z2, x2, R2, rx⟩ := yl y H2 hy
      obtain ⟨hD2, hc2, hz2⟩ := tracked_keep x2 hD' hc' hz'
      have E2 : RelE N Z2 c' env1 (L2.wipe σ vs) := ((E1.mono x').mono (ext_rm x2 hz2))
      simp only [lcGo2] at h'
      cases ep : g.put a env1 with
      | none => rw [ep] at h'; exact h'.elim
      | some e1 =>
        rw [ep] at h'
        simp only at h'
        refine hgg a y env1 e1 st' (L2.wipe σ vs) Z2 c' H2 R2 E2 rx ep _ fun σ2 E3 o3 => ⟨?_, ?_⟩
        · rw [o3 vs hsl, wipe_idem _ _ _ fun i hi => hi]
        · have h3 := Outc.mono h' (ext_rm x2 hz2) fun _ _ _ _ _ q => q
          simp only [quiet_bind] at h3
          refine htt e1 st' σ2 Z2 c' H2 R2 E3 _ (Outc.mono (Outc.rm (Y := NoX) hD2 hc2 hz2 (Outc.quiet (σ' := σ2) h3.bind)) (Ext.refl ..) ?_)
          rintro b Z3 c3 H3 x3 ⟨hD3, hc3, hz3, st3, R3, x3', h4⟩
          have R3' := relH_add R3
          have xr3 : Ext Z1 c1 H1 Z3 c3 (PV.rm H3 D) := (x'.trans (ext_rm x2 hz2)).trans x3'
          have ra3 := ra.mono ((ext_rm x2 hz2).zz.trans x3'.zz)
          cases b with
          | false =>
            simp only [Bool.false_eq_true, if_false] at h4 ⊢
            cases ho : ok st3 with
            | false => rw [ho] at h4; exact h4.elim
            | true =>
              rw [ho] at h4
              exact ⟨items.length - (i + 1), by omega, st3, Z3, c3, accA, acc, n, rfl, hlt, R3', hD3, hc3, hz3, xr3, ho, ra3, hal, hns, by rw [er]; exact h4⟩
          | true =>
            simp only [if_true, quiet_bind] at h4 ⊢
            refine hwi e1 st3 σ2 Z3 c3 H3 R3' (E3.mono x3) _ (Outc.mono (Outc.rm (Y := NoX) hD3 hc3 hz3 (Outc.quiet (σ' := σ2) h4.bind)) (Ext.refl ..) ?_)
            rintro ⟨items1, ok1⟩ Z4 c4 H4 x4 ⟨hD4, hc4, hz4, st4, R4, x4', h5⟩ J1 hJ1 hsz1
            have R4' := relH_add R4
            have xr4 := xr3.trans x4'
            have ra4 := ra3.mono x4'.zz
            have E4 : RelE N Z4 c4 e1 σ2 := (E3.mono x3).mono x4
            cases hk1 : ok1 st4 && decide (n + items1.length ≤ Sz) with
            | false => simp only [hk1] at h5; exact h5.elim
            | true =>
              simp only [hk1, if_true, quiet_bind] at h5
              simp only [Bool.and_eq_true, decide_eq_true_eq] at hk1
              have E4w := E4.wipe vs1
              -- the inner walk
              refine ⟨fun j k H5 => ∃ st5 Z5 c5 accB accV, k = items1.length - j ∧ j ≤ items1.length ∧ RelH N Z5 c5 st5 H5 ∧ H5 D = some (.lst accV) ∧ D ∉ c5 ∧ Z5 D = none ∧ Ext Z4 c4 (PV.rm H4 D) Z5 c5 (PV.rm H5 D) ∧ ok1 st5 = true ∧ RpL N Z5 (accA ++ accB) accV ∧ accB.length ≤ j ∧
                Outc N NoX σ Z5 c5 (PV.rm H5 D) ((lcGo O g1 t1 x (PV.wipe e1 vs1) ok1 (items1.drop j) st5).quiet.bind fun ys st3 => (if ok st3 then (lcGo2 O g t it1 g1 vs1 t1 x env1 ok (n + items1.length) rest st3).bind fun zs st4 => .ok (accB ++ ys ++ zs) st4 else .bad).quiet) fun ys Z'' c'' H'' => ∀ vs, H'' D = none → vs.length ≤ sizeLine → RpL N Z'' (accA ++ ys) vs → Q (.ref D) (upd H'' D (HO.lst vs)),
                ⟨items1.length, st4, Z4, c4, [], acc, rfl, Nat.zero_le _, R4', hD4, hc4, hz4, Ext.refl .., hk1.1, by simpa using ra4, Nat.le_refl _, by simpa using h5⟩, ?_⟩
              rintro j k H5 ⟨st5, Z5, c5, accB, accV, rfl, hjl, R5, hD5, hc5, hz5, x5, hok5, rb, hbl, h6⟩
              obtain ⟨v1, v2⟩ := hJ1 j Z5 c5 st5 H5 x5.e0 R5 hok5
              have E5w := E4w.mono x5
              cases ed1 : items1.drop j with
              | nil =>
                rw [ed1] at h6
                have hje : j = items1.length := Nat.le_antisymm hjl (List.drop_eq_nil_iff.mp ed1)
                refine .inl ⟨v2 hje, ?_⟩
                simp only [lcGo, quiet_ok, bind_ok] at h6
                cases ho : ok st5 with
                | false => rw [ho] at h6; exact h6.elim
                | true =>
                  rw [ho] at h6
                  simp only [if_true, quiet_bind] at h6
                  refine ⟨items.length - (i + 1), by omega, st5, Z5, c5, accA ++ accB, accV, n + items1.length, rfl, hlt, R5, hD5, hc5, hz5, xr4.trans x5, ho, rb, by rw [List.length_append]; omega, hk1.2, ?_⟩
                  rw [er]
                  refine Outc.mono h6.bind (Ext.refl ..) fun zs Z6 c6 H6 x6 ⟨st6, R6, _, h7⟩ vs' hn hz rl => ?_
                  exact h7 Z6 c6 H6 (Ext.refl ..) R6 vs' hn hz (by simpa using rl)
              | cons a1 rest1 =>
                rw [ed1] at h6
                obtain ⟨ea1, er1⟩ := getElem?_drop_cons ed1
                have hlt1 : j < items1.length := (List.getElem?_eq_some_iff.mp ea1).1
                obtain ⟨go1, yl1⟩ := v1 a1 ea1
                refine .inr ⟨go1, fun H6 => ∃ k', k' < items1.length - j ∧ ∃ st5 Z5 c5 accB accV, k' = items1.length - (j + 1) ∧ j + 1 ≤ items1.length ∧ RelH N Z5 c5 st5 H6 ∧ H6 D = some (.lst accV) ∧ D ∉ c5 ∧ Z5 D = none ∧ Ext Z4 c4 (PV.rm H4 D) Z5 c5 (PV.rm H6 D) ∧ ok1 st5 = true ∧ RpL N Z5 (accA ++ accB) accV ∧ accB.length ≤ j + 1 ∧
                  Outc N NoX σ Z5 c5 (PV.rm H6 D) ((lcGo O g1 t1 x (PV.wipe e1 vs1) ok1 (items1.drop (j + 1)) st5).quiet.bind fun ys st3 => (if ok st3 then (lcGo2 O g t it1 g1 vs1 t1 x env1 ok (n + items1.length) rest st3).bind fun zs st4 => .ok (accB ++ ys ++ zs) st4 else .bad).quiet) fun ys Z'' c'' H'' => ∀ vs, H'' D = none → vs.length ≤ sizeLine → RpL N Z'' (accA ++ ys) vs → Q (.ref D) (upd H'' D (HO.lst vs)), fun H6 q => q, fun y1 H6 hy1 => ?_⟩
                obtain ⟨Z6, x6, R6, rx1⟩ := yl1 y1 H6 hy1
                obtain ⟨hD6, hc6, hz6⟩ := tracked_keep x6 hD5 hc5 hz5
                have E6 : RelE N Z6 c5 (PV.wipe e1 vs1) (L2.wipe σ2 vs1) := E5w.mono (ext_rm x6 hz6)
                simp only [lcGo] at h6
                cases ep1 : g1.put a1 (PV.wipe e1 vs1) with
                | none => rw [ep1] at h6; exact h6.elim
                | some e2 =>
                  rw [ep1] at h6
                  simp only [quiet_bind] at h6
                  refine hgg1 a1 y1 _ e2 st5 (L2.wipe σ2 vs1) Z6 c5 H6 R6 E6 rx1 ep1 _ fun σ3 E7 o7 => ⟨?_, ?_⟩
                  · rw [o7 vs1 hsl1, wipe_idem _ _ _ fun i hi => hi]
                  · simp only [res_assoc] at h6
                    have h7 := Outc.mono h6 (ext_rm x6 hz6) fun _ _ _ _ _ q => q
                    refine htt1 e2 st5 σ3 Z6 c5 H6 R6 E7 _ (Outc.mono (Outc.rm (Y := NoX) hD6 hc6 hz6 (Outc.quiet (σ' := σ3) h7.bind)) (Ext.refl ..) ?_)
                    rintro b1 Z7 c7 H7 x7 ⟨hD7, hc7, hz7, st7, R7, x7', h8⟩
                    have R7' := relH_add R7
                    have xr7 := (x5.trans (ext_rm x6 hz6)).trans x7'
                    have rb7 := rb.mono ((ext_rm x6 hz6).zz.trans x7'.zz)
                    cases b1 with
                    | false =>
                      simp only [Bool.false_eq_true, if_false] at h8 ⊢
                      cases ho : ok1 st7 with
                      | false => rw [ho] at h8; exact h8.elim
                      | true =>
                        rw [ho] at h8
                        exact ⟨items1.length - (j + 1), by omega, st7, Z7, c7, accB, accV, rfl, hlt1, R7', hD7, hc7, hz7, xr7, ho, rb7, Nat.le_succ_of_le hbl, by rw [er1]; exact h8⟩
                    | true =>
                      simp only [if_true, quiet_bind, res_assoc] at h8 ⊢
                      refine hte e2 st7 σ3 Z7 c7 H7 R7' (E7.mono x7) _ (Outc.mono (Outc.rm (Y := NoX) hD7 hc7 hz7 (Outc.quiet (σ' := σ3) h8.bind)) (Ext.refl ..) ?_)
                      rintro w Z8 c8 H8 x8 ⟨hD8, hc8, hz8, st8, R8, x8', h9⟩ v rv
                      have R8' := relH_add R8
                      have xr8 := xr7.trans x8'
                      have rb8 := rb7.mono x8'.zz
                      cases w with
                      | v a' =>
                        simp only [W.val, Res.of, quiet_ok, bind_ok] at h9
                        cases ho : ok1 st8 with
                        | false => rw [ho] at h9; exact h9.elim
                        | true =>
                          rw [ho] at h9
                          simp only [if_true, quiet_bind, res_assoc, quiet_ok, bind_ok] at h9
                          have hl : accV.length < sizeLine := by rw [← rb8.length, sizeLine_eq, List.length_append]; have q := hk1.2; simp only [Sz] at q; omega
                          refine ⟨accV, hD8, hl, items1.length - (j + 1), by omega, st8, Z8, c8, accB ++ [a'], accV ++ [v], rfl, hlt1, ext_loose R8' hD8 hc8 hz8, upd_same, hc8, hz8, by rw [rm_upd]; exact xr8, ho, by rw [← List.append_assoc]; exact rb8.append (.cons rv .nil), by simp; omega, ?_⟩
                          rw [rm_upd, er1]
                          simpa using h9
                      | cel n => exact h9.elim
                      | lam k l => exact h9.elim
/-- [elt for target in iter if .. for target in iter if ..] -/
theorem sndf_lc2 (F : Fit N X) {elt tg iter tg1 iter1 : Expr} {ifs ifs1 : List Expr} {scope : Scope} {own : List (PySem.Str × Nat)} {vs1 : List Nat} {it it1 : PV.It} {g g1 : Tg} {t t1 : Te} {x : Ex} {pos : Pos} (hf : noFold iter = true) (hf1 : noFold iter1 = true) (hb : BlkOk X.N X.env.scope scope own)
    (hv : ∀ i ∈ vs1, i ∈ own.map (·.2)) (hsl : ∀ i ∈ g.slots, i ∈ own.map (·.2)) (hsl1 : ∀ i ∈ g1.slots, i ∈ vs1) (hi : SndI N O X tg iter it)
    (hg : ∀ (s : Shared) (H : Hp) (C : Addr) (cl : List (PySem.Str × Addr)) (fp : List Addr), SndG N (X.blk s H scope (compEnvC scope cl C X.env) fp) tg g)
    (ht : ∀ (s : Shared) (H : Hp) (C : Addr) (cl : List (PySem.Str × Addr)) (fp : List Addr), SndTs N O (X.blk s H scope (compEnvC scope cl C X.env) fp) ifs t)
    (hi1 : ∀ (s : Shared) (H : Hp) (C : Addr) (cl : List (PySem.Str × Addr)) (fp : List Addr), SndI N O (X.blk s H scope (compEnvC scope cl C X.env) fp) tg1 iter1 it1)
    (hg1 : ∀ (s : Shared) (H : Hp) (C : Addr) (cl : List (PySem.Str × Addr)) (fp : List Addr), SndG N (X.blk s H scope (compEnvC scope cl C X.env) fp) tg1 g1)
    (ht1 : ∀ (s : Shared) (H : Hp) (C : Addr) (cl : List (PySem.Str × Addr)) (fp : List Addr), SndTs N O (X.blk s H scope (compEnvC scope cl C X.env) fp) ifs1 t1)
    (he : ∀ (s : Shared) (H : Hp) (C : Addr) (cl : List (PySem.Str × Addr)) (fp : List Addr), SndE N O (X.blk s H scope (compEnvC scope cl C X.env) fp) elt x) :
    SndF N O X (.ListComp elt [⟨tg, iter, ifs, 0⟩, ⟨tg1, iter1, ifs1, 0⟩] scope pos) (eLc2 it g (own.map (·.2)) t it1 g1 vs1 t1 x) := by
  intro Y tk env st σ Z c H R E Q h
  refine WE.of (pe_lc2 (g := fun v σ H Q => ∀ s0 H0 C cl fp, WG (X.blk s0 H0 scope (compEnvC scope cl C X.env) fp) tg v σ H Q)
    (tt := fun σ H Q => ∀ s0 H0 C cl fp, ∀ (pins : List (Addr × Obj)) (s : Shared), Inv (X.blk s0 H0 scope (compEnvC scope cl C X.env) fp) pins σ H s → wpAny (model X.prog X.w) X.A (forIn ifs true fun c r => if r = true then do let ok ← isTrue c (compEnvC scope cl C X.env) (eval c (compEnvC scope cl C X.env)); pure (ForInStep.yield ok) else pure (ForInStep.yield r)) (TP (X.blk s0 H0 scope (compEnvC scope cl C X.env) fp) pins σ Q) (fun _ _ => False) s)
    (wi1 := fun σ H Q => ∀ s0 H0 C cl fp, WI (X.blk s0 H0 scope (compEnvC scope cl C X.env) fp) tg1 iter1 σ H Q)
    (g1 := fun v σ H Q => ∀ s0 H0 C cl fp, WG (X.blk s0 H0 scope (compEnvC scope cl C X.env) fp) tg1 v σ H Q)
    (tt1 := fun σ H Q => ∀ s0 H0 C cl fp, ∀ (pins : List (Addr × Obj)) (s : Shared), Inv (X.blk s0 H0 scope (compEnvC scope cl C X.env) fp) pins σ H s → wpAny (model X.prog X.w) X.A (forIn ifs1 true fun c r => if r = true then do let ok ← isTrue c (compEnvC scope cl C X.env) (eval c (compEnvC scope cl C X.env)); pure (ForInStep.yield ok) else pure (ForInStep.yield r)) (TP (X.blk s0 H0 scope (compEnvC scope cl C X.env) fp) pins σ Q) (fun _ _ => False) s)
    (te := fun σ H Q => ∀ s0 H0 C cl fp, WE (X.blk s0 H0 scope (compEnvC scope cl C X.env) fp) elt σ H Q)
    F.calm F.nd (WI.pi X tg iter) hb hv ?_ ?_ ?_ ?_ ?_ ?_ (folded_no hf _) (fun env => folded_no hf1 env)) ?_
  · exact fun s0 H0 C cl fp => ⟨fun pins s σ H v u Q I r h => h s0 H0 C cl fp pins s u I r⟩
  · exact fun s0 H0 C cl fp => ⟨fun pins s σ H Q I h => h s0 H0 C cl fp pins s I⟩
  · exact fun s0 H0 C cl fp => ⟨fun pins s σ H Q I h => (h s0 H0 C cl fp) pins s I⟩
  · exact fun s0 H0 C cl fp => ⟨fun pins s σ H v u Q I r h => h s0 H0 C cl fp pins s u I r⟩
  · exact fun s0 H0 C cl fp => ⟨fun pins s σ H Q I h => h s0 H0 C cl fp pins s I⟩
  · exact fun s0 H0 C cl fp => ⟨fun pins s σ H Q I h => h s0 H0 C cl fp pins s I⟩
  · refine lc2_core' (X := X) (tg := tg) (iter := iter) F hsl hsl1 hi ?_ ?_ ?_ ?_ ?_ ?_ tk R E h
    · exact fun a v env env' st σ Z c H' R' E' r hp Q hQ s0 H0 C cl fp => hg s0 H0 C cl fp a v env env' st σ Z c H' R' E' r hp Q hQ
    · exact fun a v env env' st σ Z c H' R' E' r hp Q hQ s0 H0 C cl fp => hg1 s0 H0 C cl fp a v env env' st σ Z c H' R' E' r hp Q hQ
    · exact fun env st σ Z c H R E T q s0 H0 C cl fp => hi1 s0 H0 C cl fp NoX takes0 env st σ Z c H R E T q
    · exact fun env st σ Z c H R E Q q s0 H0 C cl fp => ht s0 H0 C cl fp NoX takes0 env st σ Z c H R E Q q
    · exact fun env st σ Z c H R E Q q s0 H0 C cl fp => ht1 s0 H0 C cl fp NoX takes0 env st σ Z c H R E Q q
    · exact fun env st σ Z c H R E Q q s0 H0 C cl fp => he s0 H0 C cl fp NoX takes0 env st σ Z c H R E Q q
theorem lc2_lst {it it1 : PV.It} {g g1 : Tg} {own own1 : List Nat} {t t1 : Te} {x : Ex} (env : Env) (st : Sto) (w : PV.W) (st1 : Sto) (h : eLc2 it g own t it1 g1 own1 t1 x O env st = .ok w st1) : ∃ l, w = .v (.lst l) := by
  unfold eLc2 at h
  cases e : it O env st with
  | ok p st2 =>
    rw [e] at h
    simp only [bind_ok] at h
    split at h
    · cases e2 : (lcGo2 O g t it1 g1 own1 t1 x (PV.wipe env own) p.2 0 p.1 st2).quiet with
      | ok ys st3 => rw [e2] at h; cases h; exact ⟨ys, rfl⟩
      | exc _ _ _ => rw [e2] at h; cases h
      | bad => rw [e2] at h; cases h
    · cases h
  | exc _ _ _ => rw [e] at h; cases h
  | bad => rw [e] at h; cases h
end
end PV
end
section
set_option linter.all false
set_option Elab.async false
set_option maxRecDepth 100000
set_option maxHeartbeats 4000000
/-! PV16: comprehensions stored to names; lists just made. -/
namespace PV
open PySem PySem.Spec PyProof.Rows L2
section
variable {N : Nm} {O : Orc} {X : Cx}
/-! ### what a block's parts do, at any block -/
abbrev inB (X : Cx) (scope : Scope) (F : Cx → Prop) : Prop := ∀ (s0 : Shared) (H0 : Hp) (C : Addr) (cl : List (PySem.Str × Addr)) (fp : List Addr), F (X.blk s0 H0 scope (compEnvC scope cl C X.env) fp)
def bG (X : Cx) (scope : Scope) (tg : Expr) : TG := fun v σ H Q => inB X scope fun X => WG X tg v σ H Q
def bT (X : Cx) (scope : Scope) (ifs : List Expr) : TT := fun σ H Q => inB X scope fun X => ∀ (pins : List (Addr × Obj)) (s : Shared), Inv X pins σ H s → wpAny (model X.prog X.w) X.A (forIn ifs true fun c r => if r = true then do let ok ← isTrue c X.env (eval c X.env); pure (ForInStep.yield ok) else pure (ForInStep.yield r)) (TP X pins σ Q) (fun _ _ => False) s
def bE (X : Cx) (scope : Scope) (e : Expr) : TE := fun σ H Q => inB X scope fun X => WE X e σ H Q
def bI (X : Cx) (scope : Scope) (tg iter : Expr) : TI := fun σ H Q => inB X scope fun X => WI X tg iter σ H Q
theorem bG_pg {scope : Scope} {tg : Expr} : inB X scope fun X' => PG X' tg (bG X scope tg) := fun s0 H0 C cl fp => ⟨fun pins s σ H v u Q I r h => h s0 H0 C cl fp pins s u I r⟩
theorem bT_pt {scope : Scope} {ifs : List Expr} : inB X scope fun X' => PTs X' ifs (bT X scope ifs) := fun s0 H0 C cl fp => ⟨fun pins s σ H Q I h => h s0 H0 C cl fp pins s I⟩
theorem bE_pe {scope : Scope} {e : Expr} : inB X scope fun X' => PE X' e (bE X scope e) := fun s0 H0 C cl fp => ⟨fun pins s σ H Q I h => h s0 H0 C cl fp pins s I⟩
theorem bI_pi {scope : Scope} {tg e : Expr} : inB X scope fun X' => PI X' tg e (bI X scope tg e) := fun s0 H0 C cl fp => ⟨fun pins s σ H Q I h => h s0 H0 C cl fp pins s I⟩
/-- what a new list is to a wish -/
def NewL (N : Nm) (Q : VK) (w : PV.W) (Z' : Hp) (_ : List Addr) (H' : Hp) : Prop := ∀ l vs p o, w = .v (.lst l) → o = HO.lst vs → H' p = none → vs.length ≤ sizeLine → RpL N Z' l vs → Q (.ref p) (upd H' p o)
theorem lc_t (F : Fit N X) {elt tg iter : Expr} {ifs : List Expr} {scope : Scope} {own : List (PySem.Str × Nat)} {it : PV.It} {g : Tg} {t : Te} {x : Ex} (hsl : ∀ i ∈ g.slots, i ∈ own.map (·.2)) (hi : SndI N O X tg iter it)
    (hg : inB X scope fun X => SndG N X tg g) (ht : inB X scope fun X => SndTs N O X ifs t) (he : inB X scope fun X => SndE N O X elt x)
    {Y : WX} (tk : Takes X Y) {env st σ Z c H} (R : RelH N Z c st H) (E : RelE N Z c env σ) {Q : VK} (h : Outc N Y σ Z c H (eLc it g (own.map (·.2)) t x O env st) (NewL N Q)) :
    tLc (WI X tg iter) (bG X scope tg) (bT X scope ifs) (bE X scope elt) (own.map (·.2)) σ H Q := by
  refine lc_core' (X := X) (tg := tg) (iter := iter) (elt := elt) (ifs := ifs) (scope := scope) F hsl hi ?_ ?_ ?_ tk R E h
  · exact fun a v env env' st σ Z c H' R' E' r hp Q hQ s0 H0 C cl fp => hg s0 H0 C cl fp a v env env' st σ Z c H' R' E' r hp Q hQ
  · exact fun env st σ Z c H R E Q q s0 H0 C cl fp => ht s0 H0 C cl fp NoX takes0 env st σ Z c H R E Q q
  · exact fun env st σ Z c H R E Q q s0 H0 C cl fp => he s0 H0 C cl fp NoX takes0 env st σ Z c H R E Q q
theorem lc2_t (F : Fit N X) {elt tg iter tg1 iter1 : Expr} {ifs ifs1 : List Expr} {scope : Scope} {own : List (PySem.Str × Nat)} {vs1 : List Nat} {it it1 : PV.It} {g g1 : Tg} {t t1 : Te} {x : Ex}
    (hsl : ∀ i ∈ g.slots, i ∈ own.map (·.2)) (hsl1 : ∀ i ∈ g1.slots, i ∈ vs1) (hi : SndI N O X tg iter it)
    (hg : inB X scope fun X => SndG N X tg g) (ht : inB X scope fun X => SndTs N O X ifs t) (hi1 : inB X scope fun X => SndI N O X tg1 iter1 it1) (hg1 : inB X scope fun X => SndG N X tg1 g1) (ht1 : inB X scope fun X => SndTs N O X ifs1 t1)
    (he : inB X scope fun X => SndE N O X elt x)
    {Y : WX} (tk : Takes X Y) {env st σ Z c H} (R : RelH N Z c st H) (E : RelE N Z c env σ) {Q : VK} (h : Outc N Y σ Z c H (eLc2 it g (own.map (·.2)) t it1 g1 vs1 t1 x O env st) (NewL N Q)) :
    tLc2 (WI X tg iter) (bG X scope tg) (bT X scope ifs) (bI X scope tg1 iter1) (bG X scope tg1) (bT X scope ifs1) (bE X scope elt) (own.map (·.2)) vs1 σ H Q := by
  refine lc2_core' (X := X) (tg := tg) (iter := iter) F hsl hsl1 hi ?_ ?_ ?_ ?_ ?_ ?_ tk R E h
  · exact fun a v env env' st σ Z c H' R' E' r hp Q hQ s0 H0 C cl fp => hg s0 H0 C cl fp a v env env' st σ Z c H' R' E' r hp Q hQ
  · exact fun a v env env' st σ Z c H' R' E' r hp Q hQ s0 H0 C cl fp => hg1 s0 H0 C cl fp a v env env' st σ Z c H' R' E' r hp Q hQ
  · exact fun env st σ Z c H R E T q s0 H0 C cl fp => hi1 s0 H0 C cl fp NoX takes0 env st σ Z c H R E T q
  · exact fun env st σ Z c H R E Q q s0 H0 C cl fp => ht s0 H0 C cl fp NoX takes0 env st σ Z c H R E Q q
  · exact fun env st σ Z c H R E Q q s0 H0 C cl fp => ht1 s0 H0 C cl fp NoX takes0 env st σ Z c H R E Q q
  · exact fun env st σ Z c H R E Q q s0 H0 C cl fp => he s0 H0 C cl fp NoX takes0 env st σ Z c H R E Q q

/-! ### name = something just made -/
/-- y = e, e a new list -/
def SndSF (N : Nm) (O : Orc) (X : Cx) (i : Nat) (s : Stmt) (x : Ex) : Prop := ∀ (Y : WX), Takes X Y → ∀ env st σ Z c H, RelH N Z c st H → RelE N Z c env σ → ∀ D : Ends,
  Outc N Y σ Z c H (x O env st) (NewL N fun v H' => D.nx (σ.set i (some v)) H') → WS X s σ H D
theorem SndSF.set {i : Nat} {s : Stmt} {x : Ex} (hx : ∀ env st w st1, x O env st = .ok w st1 → ∃ l, w = .v (.lst l)) (h : SndSF N O X i s x) : SndS N O X s (sSet i x) := by
  intro Y tk env st σ Z c H R E D q
  refine h Y tk env st σ Z c H R E D ?_
  have q := OutS.to (f := fun w st1 => .nx (env.set i (some w)) st1) E q
  cases ex : x O env st with
  | ok w st1 =>
    rw [ex] at q
    obtain ⟨l, rfl⟩ := hx env st w st1 ex
    intro Z1 c1 H1 x1 R1 l' vs p o hl ho hp hz rl
    cases hl
    subst ho
    obtain ⟨st2, R1, x1, q⟩ := q Z1 c1 H1 x1 R1
    obtain ⟨x2, R2⟩ := ext_new (o := .lst vs) R1 hp
    exact q _ _ _ _ x2 R2 (RelE.set (w := .v (.lst l)) ((E.mono x1).mono x2) (.lst (SqL.of upd_same) (rl.mono x2.zz)) i)
  | exc k fs st1 => rw [ex] at q; exact q
  | bad => rw [ex] at q; exact q
theorem SndSF.new {i : Nat} {s : Stmt} {x : Ex} (h : SndSF N O X i s x) : SndS N O X s (sSet i (eNew x)) := by
  intro Y tk env st σ Z c H R E D q
  refine h Y tk env st σ Z c H R E D ?_
  have q := OutS.to (f := fun w st1 => .nx (env.set i (some w)) st1) E q
  refine Outc.mono q.bind (Ext.refl ..) fun w Z1 c1 H1 _ ⟨st1, R1, x1, h1⟩ l vs p o hl ho hp hz rl => ?_
  subst hl ho
  obtain ⟨x2, R2⟩ := ext_cell (o := .lst vs) (C := .lst l) R1 hp ⟨vs, upd_same, rl⟩
  obtain ⟨st3, R3, x3, h3⟩ := h1 _ _ _ x2 R2
  refine h3 _ _ _ _ (Ext.refl ..) R3 (RelE.set (w := .cel st1.length) (v := .ref p) (E.mono (x1.trans x2)) ⟨p, ?_, rfl⟩ i)
  rw [← R1.len]
  simp
theorem sndsf_of (F : Fit N X) {i : Nat} {n : PySem.Str} {e : Expr} {x : Ex} {p pos : Pos} (ho : Own X i n) (hs : swapsWith e (some (.Name n p)) pos.line X.env = pure false) (h : SndF N O X e x) : SndSF N O X i (.Assign [.Name n p] e pos) x := by
  intro Y tk env st σ Z c H R E D q
  exact WS.of (ps_set F.nd ho.ix ho.loc (WE.pe X e) hs ho.fn) (h Y tk env st σ Z c H R E _ q)
theorem sndsf_lc (F : Fit N X) {i : Nat} {n : PySem.Str} {elt tg iter : Expr} {ifs : List Expr} {scope : Scope} {own : List (PySem.Str × Nat)} {it : PV.It} {g : Tg} {t : Te} {x : Ex} {p pos spos : Pos} (hi0 : X.N[i]? = some n) (hl0 : X.env.scope.names.lookup n = some .local)
    (hs : swapsWith (.ListComp elt [⟨tg, iter, ifs, 0⟩] scope pos) (some (.Name n p)) spos.line X.env = pure true)
    (hf : noFold iter = true) (hb : BlkOk X.N X.env.scope scope own) (hsl : ∀ i ∈ g.slots, i ∈ own.map (·.2)) (hi : SndI N O X tg iter it)
    (hg : inB X scope fun X => SndG N X tg g) (ht : inB X scope fun X => SndTs N O X ifs t) (he : inB X scope fun X => SndE N O X elt x) :
    SndSF N O X i (.Assign [.Name n p] (.ListComp elt [⟨tg, iter, ifs, 0⟩] scope pos) spos) (eLc it g (own.map (·.2)) t x) := by
  intro Y tk env st σ Z c H R E D q
  exact WS.of (ps_setLc F.calm F.nd hi0 hl0 hs (WI.pi X tg iter) hb bG_pg bT_pt bE_pe (folded_no hf _)) (lc_t F hsl hi hg ht he tk R E q)
theorem sndsf_lc2 (F : Fit N X) {i : Nat} {n : PySem.Str} {elt tg iter tg1 iter1 : Expr} {ifs ifs1 : List Expr} {scope : Scope} {own : List (PySem.Str × Nat)} {vs1 : List Nat} {it it1 : PV.It} {g g1 : Tg} {t t1 : Te} {x : Ex} {p pos spos : Pos} (hi0 : X.N[i]? = some n) (hl0 : X.env.scope.names.lookup n = some .local)
    (hs : swapsWith (.ListComp elt [⟨tg, iter, ifs, 0⟩, ⟨tg1, iter1, ifs1, 0⟩] scope pos) (some (.Name n p)) spos.line X.env = pure true)
    (hf : noFold iter = true) (hf1 : noFold iter1 = true) (hb : BlkOk X.N X.env.scope scope own) (hv : ∀ i ∈ vs1, i ∈ own.map (·.2)) (hsl : ∀ i ∈ g.slots, i ∈ own.map (·.2)) (hsl1 : ∀ i ∈ g1.slots, i ∈ vs1) (hi : SndI N O X tg iter it)
    (hg : inB X scope fun X => SndG N X tg g) (ht : inB X scope fun X => SndTs N O X ifs t) (hi1 : inB X scope fun X => SndI N O X tg1 iter1 it1) (hg1 : inB X scope fun X => SndG N X tg1 g1) (ht1 : inB X scope fun X => SndTs N O X ifs1 t1)
    (he : inB X scope fun X => SndE N O X elt x) :
    SndSF N O X i (.Assign [.Name n p] (.ListComp elt [⟨tg, iter, ifs, 0⟩, ⟨tg1, iter1, ifs1, 0⟩] scope pos) spos) (eLc2 it g (own.map (·.2)) t it1 g1 vs1 t1 x) := by
  intro Y tk env st σ Z c H R E D q
  exact WS.of (ps_setLc2 F.calm F.nd hi0 hl0 hs (WI.pi X tg iter) hb hv bG_pg bT_pt bI_pi bG_pg bT_pt bE_pe (folded_no hf _) (fun env => folded_no hf1 env)) (lc2_t F hsl hsl1 hi hg ht hi1 hg1 ht1 he tk R E q)
/-- [a, b, ..] just made -/
theorem sndf_lst {es : List Expr} {xs : Es} {pos} (ha : SndA N O X es xs) : SndF N O X (.List es pos) (eLst xs) := by
  intro Y tk env st σ Z c H R E Q h
  refine WE.of (pe_lst (WA.pa X es)) (ha Y tk env st σ Z c H R E _ (Outc.mono h.bind (Ext.refl ..) fun l Z1 c1 H1 _ ⟨st1, R1, x1, h1⟩ vs rvs => ?_))
  unfold disp at h1
  cases e : vals l with
  | none => rw [e] at h1; exact h1.elim
  | some m =>
    rw [e] at h1
    have rl := vals_rp rvs e
    by_cases hm : m.length ≤ Sz
    · simp only [if_pos hm] at h1
      have hz : vs.length ≤ sizeLine := by rw [← rl.length, sizeLine_eq]; exact hm
      exact ⟨hz, fun p hp => h1 _ _ _ (Ext.refl ..) R1 m vs p _ rfl rfl hp hz rl⟩
    · simp only [if_neg hm] at h1
      exact h1.elim
end
end PV
end
section
set_option linter.all false
set_option Elab.async false
set_option maxRecDepth 100000
set_option maxHeartbeats 4000000
/-! PV17: dict(pairs). -/
namespace PV
open PySem PySem.Spec PyProof.Rows L2
section
variable {N : Nm} {O : Orc} {X : Cx}
/-- pairs that lie in the heap -/
structure PT (X : Cx) (s : Shared) (t : Addr × NestedKey × Addr × Value) : Prop where
  at_ : PairAt s.heap t.1 (.ref t.2.2.1) t.2.2.2
  is : (nestedKind X.prog X.w).is s.heap t.2.1 t.2.2.1
theorem dputs_nil (acc : List (A × A)) : dPuts acc [] = acc := rfl
theorem dputs_cons (acc : List (A × A)) (k v : A) (m : List (A × A)) : dPuts acc ((k, v) :: m) = dPuts (dPut acc k v) m := rfl
theorem dputs_len : ∀ (m acc : List (A × A)), (dPuts acc m).length ≤ acc.length + m.length
  | [], acc => Nat.le_refl _
  | (k, v) :: m, acc => by
    rw [dputs_cons]
    have h1 := dputs_len m (dPut acc k v)
    have h2 := dput_len acc k v
    simp only [List.length_cons]
    omega
theorem some_nodup {α : Type} : ∀ {ks : List α}, ks.Nodup → (ks.map some).Nodup
  | [], _ => .nil
  | k :: ks, h => by
    rw [List.nodup_cons] at h
    rw [List.map_cons, List.nodup_cons]
    exact ⟨fun q => by obtain ⟨b, h1, h2⟩ := List.mem_map.mp q; cases h2; exact h.1 h1, some_nodup h.2⟩
theorem pairs_ok (F : Fit N X) {pins σ H s Z} (I : Inv X pins σ H s) (hz : Le Z H) : ∀ {l m vl us}, pairsA l = some m → RpL N Z l vl → Vals vl us →
    ∃ ts : List (Addr × NestedKey × Addr × Value), us = ts.map (fun t => .ref t.1) ∧ ts.length = m.length ∧ (∀ t ∈ ts, PT X s t) ∧
      ∀ acc xs, XR N Z acc xs → XR N Z (dPuts acc m) (storedAllH xs (ts.map (·.2)))
  | [], _, _, _, h, .nil, .nil => by cases h; exact ⟨[], rfl, rfl, (fun _ h => nomatch h), fun acc xs r => r⟩
  | a :: l, m, _, _, h, .cons ra rl, .cons rv rvs => by
    cases a <;> first | cases h | skip
    rename_i q
    rcases q with _ | ⟨k, _ | ⟨v, _ | ⟨_, _⟩⟩⟩ <;> first | cases h | skip
    simp only [pairsA] at h
    cases e : pairsA l with
    | none => rw [e] at h; cases h
    | some m' =>
      rw [e] at h
      simp only at h
      split at h <;> cases h
      rename_i hk
      cases ra with
      | tup h1 r =>
        rename_i p ws
        cases rv
        obtain ⟨its, rr, ⟨o, ho, hc, n, hd⟩, hzz⟩ := F.tuple I (H := H) (p := p) (vs := ws) (hz.sqT h1)
        cases r with
        | cons rk r =>
          cases r with
          | cons rvv r =>
            cases r
            cases rr with
            | cons ak rr =>
              cases rr with
              | @cons _ uu _ _ av rr =>
                cases rr
                obtain ⟨nk, pk, k1, k2, rfl⟩ := tupKey_ok hk rk
                cases ak
                obtain ⟨ts, rfl, t2, t3, t4⟩ := pairs_ok F I hz e rl rvs
                refine ⟨(p, nk, pk, uu) :: ts, rfl, by simp [t2], fun t ht => ?_, fun acc xs r => ?_⟩
                · rcases List.mem_cons.mp ht with rfl | ht
                  · exact ⟨.inl ⟨o, ho, hc, n, hd⟩, Rp.nest F I hz rk rfl k1, k2⟩
                  · exact t3 t ht
                · exact t4 _ _ (XR.put rk k1 k2 rvv av r)
theorem c_dict (F : Fit N X) : CV1 N X (.type "dict") (fun a => bDict [a]) := by
  intro pins s σ Z c st H a v u y I R q rv e
  cases a <;> first | cases e | skip
  rename_i l
  obtain ⟨p, vs, rfl, h1, r⟩ := q
  cases rv
  simp only [bDict] at e
  cases em : pairsA l with
  | none => rw [em] at e; cases e
  | some m =>
    rw [em] at e
    cases e
    obtain ⟨its, rr, ⟨o, n, ho, hc, hd, hdat⟩, hzz⟩ := F.list I h1
    obtain ⟨ts, rfl, t2, t3, t4⟩ := pairs_ok F I R.sub em r rr
    have hx := t4 [] [] .nil
    have hlen : ts.length ≤ sizeLine := by
      have h2 := rr.length
      rw [List.length_map] at h2
      omega
    have gd : ∀ (j : Nat) (k v : Value), (ts.map fun t => (Value.ref t.2.2.1, t.2.2.2))[j]? = some (k, v) → ∃ t, ts[j]? = some t ∧ k = .ref t.2.2.1 ∧ v = t.2.2.2 := fun j k v hj => by
      rw [List.getElem?_map] at hj
      cases et : ts[j]? with
      | none => rw [et] at hj; cases hj
      | some t => rw [et] at hj; cases hj; exact ⟨t, rfl, rfl, rfl⟩
    let Ts : Nat → Addr := fun j => (ts[j]?.map (·.1)).getD 0
    have hp : PairItems s.heap (ts.map fun t => Value.ref t.1).toArray Ts (ts.map fun t => (Value.ref t.2.2.1, t.2.2.2)) := by
      refine ⟨by simp, fun j k v hj => ?_⟩
      obtain ⟨t, et, rfl, rfl⟩ := gd j k v hj
      have hT : Ts j = t.1 := by show (ts[j]?.map (·.1)).getD 0 = t.1; rw [et]; rfl
      rw [hT]
      exact ⟨by rw [List.getElem?_toArray, List.getElem?_map, et]; rfl, (t3 t (List.mem_of_getElem? et)).at_⟩
    have hun : (nestedKind X.prog X.w).room X.A.in1.in1 := by have := F.units; show X.A.units + _ + _ + 8 < cLine; omega
    refine call_dict_pairsH (knd := nestedKind X.prog X.w) (ps := ts.map (·.2)) (PairArg.list p (ts.map fun t => Value.ref t.1).toArray Ts (ts.map fun t => (Value.ref t.2.2.1, t.2.2.2))) F.hd hun ⟨⟨o, n, ho, hc, hd, by simpa using hdat⟩, hp⟩ ⟨by simp, fun i key v hr => ?_⟩ (fun h' hk x hx => ?_) (by simpa using hlen) fun h' tk hd' hk => ?_
    · obtain ⟨t, et, rfl, rfl⟩ := gd i key v hr
      exact ⟨t.2.1, t.2.2.1, by rw [List.getElem?_map, et]; rfl, rfl⟩
    · obtain ⟨t, ht, rfl⟩ := List.mem_map.mp hx
      exact nestedKind_stays.stays (fun b o vs n e _ => hk b o (Nat.ne_of_lt (Heap.lt_size e)) (by simp) e) (t3 t ht).is
    · obtain ⟨o', es', ep', ho', hx', hdat', he', his', hnd'⟩ := hd'
      have hbig : (s.heap.objs.size == sysModules) = false := beq_eq_false_iff_ne.mpr (Ne.symm (Nat.ne_of_lt I.big))
      have keep : ∀ b o, s.heap.get? b = some o → h'.get? b = some o := fun b o e => hk b o (by simp) e
      have r3 : RpD N Z (dPuts [] m) es'.toList := by
        have q := XR.rpd (P := X.prog) hx
        rw [he', F.w]
        exact q
      have hs' : szOk es' (dPuts [] m) := by
        have l1 : (dPuts [] m).length = es'.size := by simpa using r3.length
        refine ⟨?_, ?_⟩
        · have h3 := dputs_len m []
          simp only [List.length_nil] at h3
          omega
        · rw [hx.keys]
          have e3 : ((storedAllH [] (ts.map (·.2))).map fun x => some x.1) = ((storedAllH [] (ts.map (·.2))).map (·.1)).map some := by simp
          rw [e3]
          exact some_nodup hnd'
      have hn : H s.heap.objs.size = none := I.hok.fresh (Nat.le_refl _)
      obtain ⟨x2, R2⟩ := ext_new (o := dO s.heap.objs.size es' ep') R hn
      refine ⟨_, _, .ref s.heap.objs.size, I.laid (t' := tk) (o := dO s.heap.objs.size es' ep') keep (Nat.le_refl _) ?_, x2, R2, rfl, .dct upd_same (RpD.mono x2.zz r3) hbig hs'⟩
      exact ⟨⟨o', ho', hx', hdat'⟩, ⟨o', ho'⟩, fun h1 h2 ⟨o, e, r⟩ k => ⟨o, k _ e, r⟩⟩
theorem b_dict (F : Fit N X) : CallV N X (.type "dict") bDict := (c_dict F).v (one_of rfl fun a b l => by cases a <;> rfl)
end
end PV
end
section
set_option linter.all false
set_option Elab.async false
set_option maxRecDepth 100000
set_option maxHeartbeats 4000000
/-! PV18: set(ints), sorted(set(..)). -/
namespace PV
open PySem PySem.Spec PyProof.Rows L2
section
variable {P : Program} {w : World} {A : Around} {E : Value → Shared → Prop} {s : Shared}
/-- set() just made -/
abbrev set0 (w : World) : Obj := { cls := .type "set", dict := none, data := .set #[] 0 (.fresh 0 0 (!w.params.followText "set-order")) }
abbrev goneOn (s : Shared) (w : World) (ns : List Int) (s2 : Shared) : Prop :=
  ∃ h' tk c, s2 = { s with heap := h', toks := tk } ∧ SetR w h' s.heap.objs.size (fun j => decide (j ∈ ns)) c ∧ c ≤ ns.length ∧ ∀ b o, s.heap.get? b = some o → h'.get? b = some o
set_option maxHeartbeats 16000000 in
theorem set_of_ints {l : Addr} {its : Array Value} {ns : List Int} {Q : Value → Shared → Prop} (hh : A.handled = none) (hl : s.heap.IsList l its) (hi : IntsAre its.toList ns) (hb : ns.length + 1 < scanBound)
    (fin : ∀ (h' : Heap) (tk c : Nat), SetR w h' s.heap.objs.size (fun j => decide (j ∈ ns)) c → c ≤ ns.length → (∀ b o, s.heap.get? b = some o → h'.get? b = some o) → Q (.ref s.heap.objs.size) { s with heap := h', toks := tk }) :
    wpAny (model P w) A (call (.type "set") [.ref l]) Q E s := by
  have size : its.size = ns.length := by rw [← Array.length_toList]; exact IntsAre.length hi
  obtain ⟨c, tl, mro⟩ := F.called_set.mro
  have made := F.called_set.made
  have sub := F.called_set.sub
  refine wpAny_call (codeAny_of_tree ?_); change wpAny _ _ (callAny (.type "set") _) _ _ _
  refine wpAny_pure ⟨Code.quiet_builtin _ (by decide +kernel), codeAny_builtin (A := A) F.entry_type_call ?_⟩
  rw [Around.under_plain (weight_type_call_type "set" [.ref l] []) rfl]
  have t1 := F.called_set.notType
  have t2 := F.called_set.canCreate
  have t3 := F.typeCall_set_1 (.ref l)
  repeat (any_goals (first | assumption | wp_step))
  generalize hp : s.heap.push (set0 w) = hp1
  have g1 : hp1.get? s.heap.objs.size = some (set0 w) := by rw [← hp]; exact Heap.get?_push_size _ rfl
  have k1 : ∀ b o, s.heap.get? b = some o → hp1.get? b = some o := fun b o e => by rw [← hp]; exact Heap.get?_push_of_some _ e
  have z1 : hp1.objs.size = s.heap.objs.size + 1 := by rw [← hp]; exact Heap.size_push ..
  refine codeAny_mono (code_set_led1 (.ref l) (E := E) (Q₁ := fun ob s1 => ob = .ref s.heap.objs.size ∧ s1 = { s with heap := hp1 }) ⟨rfl, by rw [← hp]⟩) fun r s1 hr => ?_
  cases r with
  | error e => exact hr
  | ok fl =>
    cases fl with
    | next => exact hr.elim
    | brk => exact hr.elim
    | cont => exact hr.elim
    | ret ob =>
      obtain ⟨rfl, rfl⟩ := hr
      have ty : Shared.TypeIs { s with heap := hp1 } (.ref s.heap.objs.size) "set" := ⟨_, g1, rfl⟩
      have i1 := F.called_set.init.lookup
      have i2 := F.called_set.init.bind (.ref s.heap.objs.size)
      repeat (any_goals (first | assumption | wp_step))
      refine codeAny_mono (codeAny_call_builtin (R := wants (fun r s2 => r = .none ∧ goneOn s w ns s2) E) F.called_set.init.plain F.entry_set_init (check_set_init_1 ty ?_)) fun r2 s2 h2 => ?_
      · obtain ⟨⟨ocls, odict, odata, oslots⟩, hol, hcl, n, hdl⟩ := hl
        simp only at hcl hdl
        subst hcl hdl
        have hol' := k1 _ _ hol
        have sb1 := F.sub_list_set
        have sb2 := F.sub_list_frozenset
        have ne : (Value.type "list" == Value.type "dict") = false := by decide
        have ll : hp1.IsList l its := ⟨_, hol', rfl, n, rfl⟩
        unfold Builtin.«set.__init__» noKeywords Builtin.Frozenset.updateFrom
        generalize hPI : pyIter = PI
        wp_walk
        subst hPI
        refine wpAny_pyIter_list ll (wpAny_bind (wpAny_runValue ?_))
        have lt : l < s.heap.objs.size := Heap.lt_size hol
        have hh3 : A.in1.in1.in1.handled = none := by simp [hh]
        have nI : l ≠ hp1.objs.size := by rw [z1]; exact Nat.ne_of_lt (Nat.lt_succ_of_lt lt)
        have nS : s.heap.objs.size ∉ [hp1.objs.size, l] := by
          rw [z1]
          intro hm
          rcases List.mem_cons.mp hm with e | e
          · exact Nat.ne_of_lt (Nat.lt_succ_self _) e
          · exact Nat.ne_of_gt lt (List.mem_singleton.mp e)
        have val : ∀ (i : Nat) (v : Value), its[i]? = some v → ∃ k t, ns[i]? = some k ∧ v = .int k t := fun i v hv => by
          obtain ⟨lt2, _⟩ := Array.getElem?_eq_some_iff.mp hv
          rw [size] at lt2
          obtain ⟨t, e⟩ := PyProof.Rows.IntsAre.int_at hi i v (by simpa using hv)
          exact ⟨ns[i], t, List.getElem?_eq_getElem lt2, by rw [e, List.getD_eq_getElem?_getD, List.getElem?_eq_getElem lt2]; rfl⟩
        refine set_update_ints ((Walks.list hh3 _ l nI its).toS) s.heap.objs.size nS ns size hb val (its.size - 0) 0 _ (by omega) (Nat.zero_le _) ⟨⟨_, Heap.get?_push_size _ rfl, rfl, rfl⟩, ll.push _⟩ ?_ ?_
        · exact ⟨0, Nat.le_refl 0, setR_new_at (Heap.get?_push_of_some _ g1)⟩
        · intro s2 c2 mv hc2 hS2
          obtain ⟨h3, g3, d3, tk3, o3⟩ := s2
          have e1 : g3 = s.gens := mv.gens
          have e2 : d3 = s.drawn := mv.drawn
          have e3 : o3 = s.os := mv.os
          subst e1 e2 e3
          show wpAny _ _ _ _ _ _
          refine wpAny_pure ?_
          show wpAny _ _ (ret Value.none) _ _ _
          rw [size] at hc2
          refine wpAny_pure ⟨rfl, h3, tk3, c2, rfl, hS2, hc2, fun b o e => ?_⟩
          have lb := Heap.lt_size e
          refine mv.heap b o (fun hm => ?_) (Heap.get?_push_of_some _ (k1 _ _ e))
          rcases List.mem_cons.mp hm with q | q
          · exact Nat.ne_of_lt lb q
          · rw [List.mem_singleton.mp q, z1] at lb
            exact Nat.lt_irrefl _ (Nat.lt_trans (Nat.lt_succ_self _) lb)
      · cases r2 with
        | error e => exact h2
        | ok f2 =>
          cases f2 with
          | next => exact h2.elim
          | brk => exact h2.elim
          | cont => exact h2.elim
          | ret r =>
            obtain ⟨rfl, h3, tk3, c3, rfl, q1, q2, q3⟩ := h2
            repeat (any_goals (first | assumption | wp_step))
            exact fin _ _ _ q1 q2 q3
end
end PV
end
section
set_option linter.all false
set_option Elab.async false
set_option maxRecDepth 100000
set_option maxHeartbeats 4000000
/-! PV19: sorted(set(..)). -/
namespace PV
open PySem PySem.Spec PyProof.Rows L2
theorem mem_insI (k j : Int) : ∀ l, j ∈ insI k l ↔ j = k ∨ j ∈ l
  | [] => by simp [insI]
  | i :: l => by
    unfold insI
    split
    · simp
    · split
      · rename_i h1 h2
        subst h2
        simp
      · simp only [List.mem_cons, mem_insI k j l]
        constructor
        · rintro (h | h | h) <;> simp [h]
        · rintro (h | h | h) <;> simp [h]
theorem insI_asc (k : Int) : ∀ l, l.Pairwise (· < ·) → (insI k l).Pairwise (· < ·)
  | [], _ => by simp [insI]
  | i :: l, h => by
    have h' := List.pairwise_cons.mp h
    unfold insI
    split
    · rename_i hk
      refine List.pairwise_cons.mpr ⟨fun j hj => ?_, h⟩
      rcases List.mem_cons.mp hj with rfl | hj
      · exact hk
      · exact Int.lt_trans hk (h'.1 j hj)
    · split
      · exact h
      · rename_i h1 h2
        refine List.pairwise_cons.mpr ⟨fun j hj => ?_, insI_asc k l h'.2⟩
        rcases (mem_insI k j l).mp hj with rfl | hj
        · omega
        · exact h'.1 j hj
theorem setA_asc : ∀ l, (setA l).Pairwise (· < ·)
  | [] => .nil
  | k :: l => insI_asc k _ (setA_asc l)
theorem mem_setA (j : Int) : ∀ l, j ∈ setA l ↔ j ∈ l
  | [] => by simp [setA]
  | k :: l => by simp [setA, mem_insI, mem_setA j l]
/-- ascending lists with the same members are the same -/
theorem asc_ext : ∀ {l m : List Int}, l.Pairwise (· < ·) → m.Pairwise (· < ·) → (∀ k, k ∈ l ↔ k ∈ m) → l = m
  | [], [], _, _, _ => rfl
  | [], b :: m, _, _, h => by have := (h b).mpr List.mem_cons_self; cases this
  | a :: l, [], _, _, h => by have := (h a).mp List.mem_cons_self; cases this
  | a :: l, b :: m, hl, hm, h => by
    have hl' := List.pairwise_cons.mp hl
    have hm' := List.pairwise_cons.mp hm
    have e : a = b := by
      have h1 := List.mem_cons.mp ((h a).mp List.mem_cons_self)
      have h2 := List.mem_cons.mp ((h b).mpr List.mem_cons_self)
      rcases h1 with h1 | h1
      · exact h1
      · rcases h2 with h2 | h2
        · exact h2.symm
        · have := hm'.1 a h1
          have := hl'.1 b h2
          omega
    subst e
    refine congrArg _ (asc_ext hl'.2 hm'.2 fun k => ⟨fun hk => ?_, fun hk => ?_⟩)
    · rcases List.mem_cons.mp ((h k).mp (List.mem_cons_of_mem _ hk)) with rfl | q
      · exact absurd (hl'.1 k hk) (Int.lt_irrefl _)
      · exact q
    · rcases List.mem_cons.mp ((h k).mpr (List.mem_cons_of_mem _ hk)) with rfl | q
      · exact absurd (hm'.1 k hk) (Int.lt_irrefl _)
      · exact q
section
variable {N : Nm} {O : Orc} {X : Cx}
theorem rp_ints {Z} : ∀ ns : List Int, RpL N Z (ns.map A.int) (ns.map V.int)
  | [] => .nil
  | k :: ns => .cons (.int k) (rp_ints ns)
theorem snd_sortset (F : Fit N X) {e : Expr} {x : Ex} {p1 p2 pos1 pos2 : Pos} (hg : Gl X "sorted") (hm : X.mg "sorted" = none) (hg2 : Gl X "set") (hm2 : X.mg "set" = none) (hs : isStar e = false) (he : SndE N O X e x) :
    SndE N O X (.Call (.Name "sorted" p1) [.Call (.Name "set" p2) [e] [] pos2] [] pos1) (eOp1 fSortSet x) := by
  intro Y tk env st σ Z c H R E Q h pins s I
  -- the set
  have inner : ∀ T : VK, (∀ v H2, (∃ (p : Addr) (ns : List Int) (n : Nat) (w : PV.W) (l : List A) (st1 : Sto) (Z1 : Hp) (c1 : List Addr) (H1 : Hp), v = .ref p ∧ H1 p = none ∧ H2 = upd H1 p (SetO X.w p (fun j => decide (j ∈ ns)) n) ∧ n ≤ ns.length ∧ ns.length < 64 ∧
      RelH N Z1 c1 st1 H1 ∧ Outc N Y σ Z1 c1 H1 (Res.ok (W.v (.lst ((setA ns).map .int))) st1) (fun w Z' c' H' => ∀ v, RpW N Z' c' w v → Q v H')) → T v H2) → WE X (.Call (.Name "set" p2) [e] [] pos2) σ H T := by
    intro T hT pins s I
    refine wpAny_Call_Name_kw (ld_blt (u := .type "set") I hg2 hm2 (by kernel_rfl) ?_ (by decide) (by decide))
    have key : WA X [e] σ H fun vs H1 => ∃ Z1 c1 st1 w v, vs = [v] ∧ RelH N Z1 c1 st1 H1 ∧ RpW N Z1 c1 w v ∧ Outc N Y σ Z1 c1 H1 (op1 fSortSet w st1) (fun w Z' c' H' => ∀ v, RpW N Z' c' w v → Q v H') := by
      refine WA.of (pa_cons (WE.pe X e) pa_nil (star_no hs _ _)) ?_
      exact he Y tk env st σ Z c H R E _ (Outc.mono h.bind (Ext.refl ..) fun w Z1 c1 H1 _ ⟨st1, R1, x1, h1⟩ v rv => ⟨Z1, c1, st1, w, v, rfl, R1, rv, h1⟩)
    refine PyProof.Rows.callWith_type1 (thn (key pos2 pins s I) fun us s1 ⟨vs, H1, I1, r1, Z1, c1, st1, w, v, hv, R1, rw1, q⟩ => ?_) (star_no hs _ _) rfl
    subst hv
    obtain ⟨a, r, e1, e2, q⟩ := op1_ok q
    have vv := vw_ok R1 rw1 e1
    cases a <;> first | cases e2 | skip
    rename_i l
    obtain ⟨b, vs, rfl, h1, rl⟩ := vv
    simp only [fSortSet] at e2
    cases em : intsA l with
    | none => rw [em] at e2; cases e2
    | some ns =>
      rw [em] at e2
      simp only [Option.bind_some] at e2
      split at e2 <;> cases e2
      rename_i h64
      obtain ⟨hv, _⟩ := intsA_ok rl em
      subst hv
      cases r1 with
      | cons ra rt =>
        cases rt
        cases ra
        obtain ⟨its, rr, ⟨o, n, ho, hc, hd, hdat⟩, hzz⟩ := F.list I1 h1
        refine set_of_ints (l := b) (its := its.toArray) (ns := ns) F.hd ⟨o, ho, hc, n, hdat⟩ (by simpa using ints_of_vals rr) (by unfold scanBound; omega) fun h' tk c' S1 hc' kp => ?_
        have hn : H1 s1.heap.objs.size = none := I1.hok.fresh (Nat.le_refl _)
        exact ⟨.ref s1.heap.objs.size, _, I1.laid (t' := tk) (o := SetO X.w s1.heap.objs.size (fun j => decide (j ∈ ns)) c') kp (Nat.le_refl _) (setO_new S1), rfl, hT _ _ ⟨s1.heap.objs.size, ns, c', w, l, st1, Z1, c1, H1, rfl, hn, rfl, hc', h64, R1, q⟩⟩
  refine wpAny_Call_Name_kw (ld_blt (u := .builtin "sorted") I hg hm (by kernel_rfl) ?_ (by decide) (by decide))
  have key : WA X [.Call (.Name "set" p2) [e] [] pos2] σ H fun vs H2 => ∃ (p : Addr) (ns : List Int) (n : Nat) (st1 : Sto) (Z1 : Hp) (c1 : List Addr) (H1 : Hp), vs = [.ref p] ∧ H1 p = none ∧ H2 = upd H1 p (SetO X.w p (fun j => decide (j ∈ ns)) n) ∧ n ≤ ns.length ∧ ns.length < 64 ∧
      RelH N Z1 c1 st1 H1 ∧ Outc N Y σ Z1 c1 H1 (Res.ok (W.v (.lst ((setA ns).map .int))) st1) (fun w Z' c' H' => ∀ v, RpW N Z' c' w v → Q v H') := by
    refine WA.of (pa_cons (WE.pe X _) pa_nil (by rfl)) (inner _ fun v H2 q => ?_)
    obtain ⟨p, ns, n, w, l, st1, Z1, c1, H1, rfl, q1, q2, q3, q4, q5, q6⟩ := q
    exact ⟨p, ns, n, st1, Z1, c1, H1, rfl, q1, q2, q3, q4, q5, q6⟩
  refine PyProof.Rows.callWith_builtin1 (thn (key pos1 pins s I) fun us s1 ⟨vs, H2, I2, r2, p, ns, n, st1, Z1, c1, H1, hv, hp, hH, hn, h64, R1, q⟩ => ?_) (by rfl) rfl
  subst hv hH
  obtain ⟨x2, R2⟩ := ext_junk (o := SetO X.w p (fun j => decide (j ∈ ns)) n) R1 hp
  refine cr_sortedSet F.calm pins s1 σ _ [.ref p] us Q I2 r2 ⟨p, _, n, rfl, upd_same, by omega, fun ms b h1 h2 h3 hb => ?_⟩
  have e : ms = setA ns := asc_ext h1 (setA_asc ns) fun k => by rw [h2 k, mem_setA]; simp
  subst e
  have hz : ((setA ns).map V.int).length ≤ sizeLine := by rw [List.length_map, h3, sizeLine_eq]; omega
  obtain ⟨x3, R3⟩ := ext_new (o := .lst ((setA ns).map V.int)) R2 hb
  exact q _ _ _ (x2.trans x3) R3 (.ref b) (.lst (SqL.of upd_same) (rp_ints _))
end
end PV
end
section
set_option linter.all false
set_option Elab.async false
set_option maxRecDepth 100000
set_option maxHeartbeats 4000000
/-! PV20: sum(lists, start). -/
namespace PV
open PySem PySem.Spec PyProof.Rows L2
section
variable {P : Program} {w : World} {A' : Around} {E : Value → Shared → Prop} {s : Shared}
theorem cat_plain {l b : Addr} {xs ys : Array Value} {Q : Value → Shared → Prop} (hl : PlainL s.heap l xs) (hb : PlainL s.heap b ys) (hz : xs.size + ys.size ≤ sizeLine)
    (q : Q (.ref s.heap.objs.size) { s with heap := s.heap.push (seqObj "list" (xs ++ ys) 0) }) : wpAny (model P w) A' (binaryOp .Add (.ref l) (.ref b)) Q E s := by
  obtain ⟨⟨cc, dd, dt, sl⟩, n, e, hc, hd, hdat⟩ := hl
  obtain ⟨⟨cc2, dd2, dt2, sl2⟩, n2, e2, hc2, hd2, hdat2⟩ := hb
  simp only at hc hd hdat hc2 hd2 hdat2
  subst hc hd hdat hc2 hd2 hdat2
  exact concat_meets ⟨_, e, rfl⟩ ⟨_, e2, rfl⟩ noFill_list_add seq_list_add PySem.F.slot_list_add PySem.F.entry_list_add (PySem.F.args_list_add_2 _ _) (list_addW l b xs ys n n2 none none sl sl2 hz) ⟨e, e2, q⟩
def joinV (as : List (Array Value)) : Array Value := as.foldl (· ++ ·) #[]
/-- what the sum leaves -/
def SumEnd (s : Shared) (I S t : Addr) (arr : Array Value) (last : Bool) (R : Result → Shared → Prop) : Prop :=
  ∀ h' tk t', (∀ b o, b ≠ I → b ≠ S → s.heap.get? b = some o → h'.get? b = some o) → ((t' = t ∧ last = true) ∨ (s.heap.objs.size ≤ t' ∧ last = false ∧ h'.get? t' = some (seqObj "list" arr 0))) → R (.ok (.ret (.ref t'))) { s with heap := h', toks := tk }
theorem sum_lists_loop {R : Result → Shared → Prop} (hh : A'.handled = none) (I S ar : Addr) (items : Array Value) (Ts : List (Addr × Array Value)) (hI : items.toList = Ts.map fun t => .ref t.1) (hIS : I ≠ S) (haI : ar ≠ I) (haS : ar ≠ S) (hT : ∀ t ∈ Ts, t.1 ≠ I ∧ t.1 ≠ S) :
    ∀ (k i : Nat) (s : Shared) (t : Addr) (arr : Array Value) (c : Nat), Ts.length - i = k → i ≤ Ts.length → s.heap.IsListIter I ar i → s.heap.IsList ar items → (∀ t ∈ Ts, PlainL s.heap t.1 t.2) → s.heap.get? S = some (seqObj "list" #[.ref t] c) → PlainL s.heap t arr → t ≠ I → t ≠ S →
    arr.size + ((Ts.drop i).map fun t => t.2.size).sum ≤ sizeLine →
    SumEnd s I S t (((Ts.drop i).map (·.2)).foldl (· ++ ·) arr) (decide (i = Ts.length)) R →
    codeAny (model P w) A' (.builtin "sum.loop" ⟨[.ref I, .ref S, rawInt 2, rawInt 0], []⟩) R s := by
  intro k
  induction k with
  | zero =>
    intro i s t arr c hk hi hit hl hTs hS ht htI htS hz hR
    have e : i = Ts.length := by omega
    refine codeAny_builtin F.entry_sum_loop ?_
    rw [Around.under_plainId F.plain_sum_loop _]
    change wpAny _ A'.in1 (seqItems? (.ref S) >>= _) _ _ s
    refine wpAny_bind (wpAny_seqItems hS rfl ?_)
    change wpAny _ A'.in1 (tryCatch (pyNext (.ref I)) _ >>= _) _ _ s
    refine wpAny_bind (wpAny_tryCatch (wpAny_pyNext_list_end (by simpa using hh) hit hl (Array.getElem?_eq_none ?_) fun h' x => ?_))
    · rw [← Array.length_toList, hI, List.length_map, e]
      exact Nat.le_refl _
    · exact wpAny_pure (hR h' s.toks t (fun b o hb _ q => x b o hb q) (.inl ⟨rfl, by simp [e]⟩))
  | succ k ih =>
    intro i s t arr c hk hi hit hl hTs hS ht htI htS hz hR
    have hlt : i < Ts.length := by omega
    obtain ⟨x, hx⟩ : ∃ x, Ts[i]? = some x := ⟨_, List.getElem?_eq_getElem hlt⟩
    have hxm := List.mem_of_getElem? hx
    have hd : Ts.drop i = x :: Ts.drop (i + 1) := by
      rw [List.drop_eq_getElem_cons hlt]
      rw [List.getElem?_eq_getElem hlt] at hx
      rw [Option.some.inj hx]
    have hv : items[i]? = some (.ref x.1) := by
      rw [← Array.getElem?_toList, hI, List.getElem?_map, hx]
      rfl
    rw [hd] at hz
    simp only [List.map_cons, List.sum_cons] at hz
    refine codeAny_builtin F.entry_sum_loop ?_
    rw [Around.under_plainId F.plain_sum_loop _]
    change wpAny _ A'.in1 (seqItems? (.ref S) >>= _) _ _ s
    refine wpAny_bind (wpAny_seqItems hS rfl ?_)
    change wpAny _ A'.in1 (tryCatch (pyNext (.ref I)) _ >>= _) _ _ s
    refine wpAny_bind (wpAny_tryCatch (wpAny_pyNext_list_item hit hl hv fun h1 hit1 sb1 => ?_))
    have k1 : ∀ b o, b ≠ I → s.heap.get? b = some o → h1.get? b = some o := fun b o hb q => (sb1.2 b hb).trans q
    have ht1 : PlainL h1 t arr := by obtain ⟨o, n, q, r⟩ := ht; exact ⟨o, n, k1 _ _ htI q, r⟩
    have hx1 : PlainL h1 x.1 x.2 := by obtain ⟨o, n, q, r⟩ := hTs x hxm; exact ⟨o, n, k1 _ _ (hT x hxm).1 q, r⟩
    have hS1 := k1 _ _ (Ne.symm hIS) hS
    change wpAny _ A'.in1 ((holding [Value.ref x.1] (binaryOp .Add (.ref t) (.ref x.1))).attempt >>= _) _ _ _
    refine wpAny_bind (wpAny_attempt (wpAny_holding (cat_plain (s := { s with heap := h1 }) ht1 hx1 (by omega) ?_)))
    change wpAny _ A'.in1 (updateSeq S (fun _ => #[.ref h1.objs.size]) >>= _) _ _ _
    have z1 : s.heap.objs.size ≤ h1.objs.size := by
      have := sb1.1
      omega
    have hS2 : (h1.push (seqObj "list" (arr ++ x.2) 0)).get? S = some (seqObj "list" #[.ref t] c) := Heap.get?_push_of_some _ hS1
    refine wpAny_bind (wpAny_updateSeq hS2 rfl ?_)
    refine wpAny_bind (wpAny_letGo ?_)
    have hS3 := Heap.get?_update_self (Obj.mapSeq fun _ => #[Value.ref h1.objs.size]) hS2 rfl
    refine wpAny_bind (wpAny_updateSeq hS3 rfl ?_)
    have hS4 := Heap.get?_update_self (Obj.mapSeq fun _ => #[Value.ref h1.objs.size]) hS3 rfl
    have k4 : ∀ b o, b ≠ S → (h1.push (seqObj "list" (arr ++ x.2) 0)).get? b = some o → (((h1.push (seqObj "list" (arr ++ x.2) 0)).update S (Obj.mapSeq fun _ => #[Value.ref h1.objs.size])).update S (Obj.mapSeq fun _ => #[Value.ref h1.objs.size])).get? b = some o := fun b o hb q => by
      rw [Heap.get?_update_other _ _ (Ne.symm hb), Heap.get?_update_other _ _ (Ne.symm hb)]
      exact q
    have ltI : I < s.heap.objs.size := by obtain ⟨o, e, _⟩ := hit; exact Heap.lt_size e
    have ltS : S < s.heap.objs.size := Heap.lt_size hS
    have nI : h1.objs.size ≠ I := Nat.ne_of_gt (Nat.lt_of_lt_of_le ltI z1)
    have nS : h1.objs.size ≠ S := Nat.ne_of_gt (Nat.lt_of_lt_of_le ltS z1)
    have k5 : ∀ b o, b ≠ I → b ≠ S → s.heap.get? b = some o → (((h1.push (seqObj "list" (arr ++ x.2) 0)).update S (Obj.mapSeq fun _ => #[Value.ref h1.objs.size])).update S (Obj.mapSeq fun _ => #[Value.ref h1.objs.size])).get? b = some o := fun b o h1 h2 q => k4 b o h2 (Heap.get?_push_of_some _ (k1 b o h1 q))
    have kp : ∀ {a : Addr} {xs : Array Value}, a ≠ I → a ≠ S → PlainL s.heap a xs → PlainL _ a xs := fun h1 h2 ⟨o, n, q, r⟩ => ⟨o, n, k5 _ _ h1 h2 q, r⟩
    have nw := k4 h1.objs.size _ nS (Heap.get?_push_size _ rfl)
    refine wpAny_pure ⟨plainId_quiet F.plain_sum_loop _, ih (i + 1) _ h1.objs.size (arr ++ x.2) _ (by omega) hlt (hit1.at fun o q => k4 I o hIS (Heap.get?_push_of_some _ q)) (hl.at fun o q => k5 _ _ haI haS q) (fun y hy => kp (hT y hy).1 (hT y hy).2 (hTs y hy)) hS4 ⟨_, 0, nw, rfl, rfl, rfl⟩ nI nS (by rw [Array.size_append]; omega) ?_⟩
    intro h2 tk t' kk dd
    have fold : List.foldl (fun x1 x2 => x1 ++ x2) arr ((Ts.drop i).map (·.2)) = List.foldl (fun x1 x2 => x1 ++ x2) (arr ++ x.2) ((Ts.drop (i + 1)).map (·.2)) := by rw [hd]; rfl
    refine hR h2 tk t' (fun b o hb hb2 q => kk b o hb hb2 (k5 b o hb hb2 q)) (.inr ?_)
    rw [fold]
    rcases dd with ⟨rfl, hlast⟩ | ⟨q1, q2, q3⟩
    · refine ⟨z1, by simp; omega, ?_⟩
      have : Ts.drop (i + 1) = [] := List.drop_eq_nil_of_le (by have := of_decide_eq_true hlast; omega)
      rw [this]
      exact kk _ _ nI nS nw
    · refine ⟨?_, by simp; omega, q3⟩
      refine Nat.le_trans (Nat.le_trans z1 ?_) q1
      simp only [Heap.size_update, Heap.size_push]
      omega
theorem args_sum2 (a b : Value) : argsOk "sum" ⟨[a, b], []⟩ := by unfold argsOk; kernel_rfl
theorem sum_lists {Q : Value → Shared → Prop} (hh : A'.handled = none) {ar t : Addr} {items arr : Array Value} {Ts : List (Addr × Array Value)} (hI : items.toList = Ts.map fun t => .ref t.1) (hl : PlainL s.heap ar items) (hTs : ∀ t ∈ Ts, PlainL s.heap t.1 t.2) (ht : PlainL s.heap t arr)
    (hz : arr.size + (Ts.map fun t => t.2.size).sum ≤ sizeLine)
    (q : ∀ h' tk t', (∀ b o, s.heap.get? b = some o → h'.get? b = some o) → ((t' = t ∧ Ts = []) ∨ (s.heap.objs.size ≤ t' ∧ h'.get? t' = some (seqObj "list" ((Ts.map (·.2)).foldl (· ++ ·) arr) 0))) → Q (.ref t') { s with heap := h', toks := tk }) :
    wpAny (model P w) A' (call (.builtin "sum") [.ref ar, .ref t]) Q E s := by
  refine call_function_tree F.kind_sum F.plain_sum F.entry_sum (args_sum2 _ _) ?_
  unfold Builtin.«sum»
  simp only [List.length_cons, List.length_nil]
  rw [if_neg (by decide)]
  refine wpAny_bind (wpAny_of_eq (show Builtin.Builtins.bindParams "sum" ["start"] 0 ⟨[.ref t], []⟩ = pure [some (.ref t)] from rfl) ?_)
  have il : s.heap.IsList ar items := by obtain ⟨o, n, e, c, _, d⟩ := hl; exact ⟨o, e, c, n, d⟩
  have hla : ar < s.heap.objs.size := by obtain ⟨o, n, e, _⟩ := hl; exact Heap.lt_size e
  have hlt : t < s.heap.objs.size := by obtain ⟨o, n, e, _⟩ := ht; exact Heap.lt_size e
  refine wpAny_bind (wpAny_pyIter_list il ?_)
  refine wpAny_bind (wpAny_pure ?_)
  simp only [List.forIn_cons, List.forIn_nil]
  generalize hp : s.heap.push { cls := .type "list_iterator", data := .fields #[.ref ar, .int 0 0] } = hp1
  have k1 : ∀ b o, s.heap.get? b = some o → hp1.get? b = some o := fun b o e => by rw [← hp]; exact Heap.get?_push_of_some _ e
  have z1 : hp1.objs.size = s.heap.objs.size + 1 := by rw [← hp]; exact Heap.size_push ..
  have g1 : hp1.get? s.heap.objs.size = some { cls := .type "list_iterator", data := .fields #[.ref ar, .int 0 0] } := by rw [← hp]; exact Heap.get?_push_size _ rfl
  have ty : Shared.TypeIs { s with heap := hp1 } (.ref t) "list" := by obtain ⟨o, n, e, c, _⟩ := ht; exact ⟨o, k1 _ _ e, c⟩
  refine wpAny_bind (wpAny_bind (wpAny_bind (wpAny_isInstance (T := "list") (b := false) ty F.sub_list_str ?_)))
  simp only [Bool.false_eq_true, if_false]
  refine wpAny_pure (wpAny_bind (wpAny_bind (wpAny_isInstance (T := "list") (b := false) ty F.sub_list_bytes ?_)))
  simp only [Bool.false_eq_true, if_false]
  refine wpAny_pure (wpAny_bind (wpAny_bind (wpAny_isInstance (T := "list") (b := false) ty F.sub_list_bytearray ?_)))
  simp only [Bool.false_eq_true, if_false]
  refine wpAny_pure (wpAny_pure ?_)
  refine wpAny_bind (wpAny_newObj_type ?_)
  have nT : ∀ {a : Addr}, a < s.heap.objs.size → a ≠ s.heap.objs.size ∧ a ≠ hp1.objs.size := fun h => ⟨Nat.ne_of_lt h, by rw [z1]; exact Nat.ne_of_lt (Nat.lt_succ_of_lt h)⟩
  have k2 : ∀ b o, hp1.get? b = some o → (hp1.push (seqObj "list" #[.ref t] 0)).get? b = some o := fun b o e => Heap.get?_push_of_some _ e
  have kp : ∀ {a : Addr} {xs : Array Value}, PlainL s.heap a xs → PlainL (hp1.push (seqObj "list" #[.ref t] 0)) a xs := fun ⟨o, n, e, r⟩ => ⟨o, n, k2 _ _ (k1 _ _ e), r⟩
  refine wpAny_pure ⟨plainId_quiet F.plain_sum_loop _, sum_lists_loop (A' := A') hh s.heap.objs.size hp1.objs.size ar items Ts hI (by rw [z1]; exact Nat.ne_of_lt (Nat.lt_succ_self _)) (nT hla).1 (nT hla).2 (fun y hy => ?_) Ts.length 0 _ t arr 0 rfl (Nat.zero_le _) ⟨_, k2 _ _ g1, rfl, rfl⟩ (il.at fun o e => k2 _ _ (k1 _ _ e)) (fun y hy => kp (hTs y hy)) (Heap.get?_push_size _ rfl) (kp ht) (nT hlt).1 (nT hlt).2 (by simpa using hz) fun h' tk t' kk dd => ?_⟩
  · obtain ⟨o, n, e, _⟩ := hTs y hy
    exact nT (Heap.lt_size e)
  · refine q h' tk t' (fun b o e => kk b o (nT (Heap.lt_size e)).1 (nT (Heap.lt_size e)).2 (k2 _ _ (k1 _ _ e))) ?_
    rcases dd with ⟨h1, h2⟩ | ⟨h1, h2, h3⟩
    · exact .inl ⟨h1, List.length_eq_zero_iff.mp (of_decide_eq_true h2).symm⟩
    · refine .inr ⟨Nat.le_trans ?_ h1, by simpa using h3⟩
      rw [Heap.size_push, z1]
      omega
end
section
variable {N : Nm} {O : Orc} {X : Cx}
theorem lists_ok (F : Fit N X) {pins σ H s Z} (I : Inv X pins σ H s) (hz : Le Z H) : ∀ {l ms vl us}, listsA l = some ms → RpL N Z l vl → Vals vl us →
    ∃ (Ts : List (Addr × Array Value)) (wv : List V), us = Ts.map (fun t => .ref t.1) ∧ (∀ t ∈ Ts, PlainL s.heap t.1 t.2) ∧ RpL N Z ms.flatten wv ∧ (Ts.map fun t => t.2.size).sum = ms.flatten.length ∧
      ∀ arr : Array Value, ∃ us2, (((Ts.map (·.2)).foldl (· ++ ·) arr).toList = arr.toList ++ us2) ∧ Vals wv us2
  | [], _, _, _, h, .nil, .nil => by cases h; exact ⟨[], [], rfl, (fun _ h => nomatch h), .nil, rfl, fun arr => ⟨[], by simp, .nil⟩⟩
  | a :: l, m, _, _, h, .cons ra rl, .cons rv rvs => by
    cases a <;> first | cases h | skip
    rename_i q
    simp only [listsA] at h
    cases e : listsA l with
    | none => rw [e] at h; cases h
    | some m' =>
      rw [e] at h
      cases h
      obtain ⟨Ts, wv, rfl, t1, t2, t3, t4⟩ := lists_ok F I hz e rl rvs
      cases ra with
      | lst h1 r =>
        rename_i p ws
        cases rv
        obtain ⟨its, rr, pl, hzz⟩ := F.list I (hz.sqL h1)
        refine ⟨(p, its.toArray) :: Ts, ws ++ wv, rfl, fun t ht => ?_, by simpa using r.append t2, ?_, fun arr => ?_⟩
        · rcases List.mem_cons.mp ht with rfl | ht
          · exact pl
          · exact t1 t ht
        · simp only [List.map_cons, List.sum_cons, t3, List.flatten_cons, List.length_append]
          have := r.length
          have := rr.length
          simp
          omega
        · obtain ⟨us2, q1, q2⟩ := t4 (arr ++ its.toArray)
          exact ⟨its ++ us2, by simpa using q1, rr.append q2⟩

theorem ofV_ok {o : Option A} {st} {Y : WX} {σ Z c H} {Q : PV.W → Hp → List Addr → Hp → Prop} (h : Outc N Y σ Z c H (ofV o st) Q) : ∃ r, o = some r ∧ Outc N Y σ Z c H (Res.ok (W.v r) st) Q := by
  cases o with
  | none => exact h.elim
  | some r => exact ⟨r, rfl, h⟩
theorem c_sumL (F : Fit N X) {pins s σ Z c st H l v u m v2 u2 y} (I : Inv X pins σ H s) (R : RelH N Z c st H) (q : Vw N Z H l v) (rv : RelV v u) (q2 : Rp N Z m v2) (rv2 : RelV v2 u2) (e : bSumL [l, m] = some y) :
    wpAny (model X.prog X.w) X.A (call (.builtin "sum") [u, u2]) (PostV N X pins σ Z c st H y) X.xe s := by
  cases l <;> cases m <;> first | cases e | skip
  rename_i l m
  simp only [bSumL] at e
  cases em : listsA l with
  | none => rw [em] at e; cases e
  | some ms =>
    rw [em] at e
    simp only [Option.bind_some] at e
    split at e <;> cases e
    rename_i hz
    obtain ⟨p, ws, rfl, h1, r1⟩ := q
    have qm := q2
    cases q2 with
    | @lst _ p2 ws2 h2 r2 =>
      cases rv
      cases rv2
      obtain ⟨its, rr, pl, hzz⟩ := F.list I h1
      obtain ⟨its2, rr2, pl2, hzz2⟩ := F.list I (R.sub.sqL h2)
      obtain ⟨Ts, wv, e1, t1, t2, t3, t4⟩ := lists_ok F I R.sub em r1 rr
      have l2 := r2.length
      have l3 := rr2.length
      refine sum_lists (items := its.toArray) (arr := its2.toArray) (Ts := Ts) F.hd (by simpa using e1) pl t1 pl2 (by rw [t3, sizeLine_eq, List.size_toArray, ← l3, ← l2]; exact hz) fun h' tk t' k d => ?_
      rcases d with ⟨rfl, rfl⟩ | ⟨hp, hg⟩
      · have hms : ms.flatten = [] := List.length_eq_zero_iff.mp t3.symm
        rw [hms, List.append_nil]
        exact ⟨Z, H, .ref _, I.kept k, Ext.refl .., R, rfl, qm⟩
      · obtain ⟨us2, e2, rv2⟩ := t4 its2.toArray
        have rl : RpL N Z (m ++ ms.flatten) (ws2 ++ wv) := r2.append t2
        have hn : H t' = none := I.hok.fresh hp
        obtain ⟨Z', x, R2, q2⟩ := Got.lst R rl hn
        refine ⟨Z', _, .ref t', I.laid (t' := tk) (o := .lst (ws2 ++ wv)) k hp ⟨?_, its2 ++ us2, 0, rr2.append rv2, ?_⟩, x, R2, rfl, q2⟩
        · rw [← rl.length, sizeLine_eq, List.length_append]; exact hz
        · rw [hg]
          have : ((Ts.map (·.2)).foldl (· ++ ·) its2.toArray) = (its2 ++ us2).toArray := by
            rw [← Array.toList_inj, e2]
          rw [this]
theorem snd_sumL (F : Fit N X) {a b : Expr} {x y : Ex} {p pos : Pos} (hg : Gl X "sum") (hm : X.mg "sum" = none) (hs : isStar a = false) (hs2 : isStar b = false) (ha : SndE N O X a x) (hb : SndE N O X b y) : SndE N O X (.Call (.Name "sum" p) [a, b] [] pos) (eSumL x y) := by
  intro Y tk env st σ Z c H R E Q h pins s I
  refine wpAny_Call_Name_kw (ld_blt (u := .builtin "sum") I hg hm (by kernel_rfl) ?_ (by decide) (by decide))
  have key : WA X [a, b] σ H fun vs H1 => ∃ Z1 c1 st1 w u v v2, vs = [v, v2] ∧ RelH N Z1 c1 st1 H1 ∧ RpW N Z1 c1 w v ∧ RpW N Z1 c1 u v2 ∧ Outc N Y σ Z1 c1 H1 (match u with | .v b => ofV ((vw st1 w).bind fun a => bSumL [a, b]) st1 | _ => Res.bad) (fun w Z' c' H' => ∀ v, RpW N Z' c' w v → Q v H') := by
    refine WA.of (pa_cons (WE.pe X a) (pa_cons (WE.pe X b) pa_nil (star_no hs2 _ _)) (star_no hs _ _)) ?_
    refine ha Y tk env st σ Z c H R E _ (Outc.mono h.bind (Ext.refl ..) fun w Z1 c1 H1 _ ⟨st1, R1, x1, h1⟩ v rv => ?_)
    exact hb Y tk env st1 σ Z1 c1 H1 R1 (E.mono x1) _ (Outc.mono h1.bind (Ext.refl ..) fun u Z2 c2 H2 _ ⟨st2, R2, x2, h2⟩ v2 rv2 => ⟨Z2, c2, st2, w, u, v, v2, rfl, R2, rv.mono x2, rv2, h2⟩)
  refine PyProof.Rows.callWith_builtin1 (thn (key pos pins s I) fun us s1 ⟨vs, H1, I1, r1, Z1, c1, st1, w, u, v, v2, hv, R1, rw1, ru1, q⟩ => ?_) (star_no hs _ _) (no_star _ _ [b] (by simp [hs2]))
  subst hv
  cases u with
  | cel n => exact q.elim
  | lam k l => exact q.elim
  | v b =>
    obtain ⟨r, e1, q⟩ := ofV_ok q
    cases ew : vw st1 w with
    | none => rw [ew] at e1; cases e1
    | some a =>
      rw [ew] at e1
      cases r1 with
      | cons ra rt =>
        cases rt with
        | cons rb rt =>
          cases rt
          exact thn (c_sumL F I1 R1 (vw_ok R1 rw1 ew) ra ru1 rb e1) fun w s' p => p.ep q
end
end PV
end
section
set_option linter.all false
set_option Elab.async false
set_option maxRecDepth 100000
set_option maxHeartbeats 4000000
/-! PV21: objects held for a while; a zip that is kept in a variable. -/
namespace PV
open PySem PySem.Spec PyProof.Rows L2
section
variable {N : Nm} {O : Orc} {X : Cx} {pins : List (Addr × Obj)} {σ : Sl} {H : Hp} {s : Shared}
/-- H, and what lies at the addresses as it lies in g -/
def hold (H : Hp) (as : List Addr) (g : Heap) : Hp := fun b => if b ∈ as then some (.ext fun h => ∀ o, g.get? b = some o → h.get? b = some o) else H b
theorem hold_in {as : List Addr} {g : Heap} {b : Addr} (h : b ∈ as) : hold H as g b = some (.ext fun h => ∀ o, g.get? b = some o → h.get? b = some o) := if_pos h
theorem hold_out {as : List Addr} {g : Heap} {b : Addr} (h : b ∉ as) : hold H as g b = H b := if_neg h
theorem inv_hold {h' : Heap} {t' : Nat} {as : List Addr} (I : Inv X pins σ H s) (k : ∀ b o, s.heap.get? b = some o → h'.get? b = some o) (ha : ∀ b ∈ as, s.heap.objs.size ≤ b ∧ ∃ o, h'.get? b = some o) : Inv X pins σ (hold H as h') { s with heap := h', toks := t' } := by
  have old : ∀ b o, s.heap.get? b = some o → b ∉ as := fun b o e hb => Nat.lt_irrefl _ (Nat.lt_of_lt_of_le (Heap.lt_size e) (ha b hb).1)
  have tr : ∀ b u, H b = some u → b ∉ as := fun b u e hb => Nat.lt_irrefl _ (Nat.lt_of_lt_of_le (I.hok.lt e) (ha b hb).1)
  refine I.step (g' := s.gens) (d' := s.drawn) (t' := t') (ch := []) (fun b hb => nomatch hb) (fun b o _ _ _ e _ => k b o e) (fun b o _ _ _ e _ => ⟨o.slots, k b o e⟩) (fun b o _ e n => ?_) (fun b o _ e => ⟨o, k b o e⟩) (fun b xs e => ?_) (fun b o u e => ?_) (fun b ps e => ⟨#[], ?_⟩) (fun m hm => ?_) (fun b u e => ?_) I.bare
  · rw [hold_out (old b o e)]; exact n
  · rw [hold_out (tr b _ e)]; exact e
  · rw [hold_out (tr b _ e)]; exact e
  · rw [hold_out (tr b _ e), e]; simp
  · obtain ⟨o, es, ep, ho, r⟩ := hm
    exact ⟨o, es, ep, k _ o ho, r⟩
  · by_cases hb : b ∈ as
    · rw [hold_in hb] at e
      cases e
      exact ⟨fun o q => q, (ha b hb).2, fun h1 h2 p kk o q => kk o (p o q)⟩
    · rw [hold_out hb] at e
      refine (I.hok b u e).stay (fun c v hc q => k c v q) (fun c q => by rw [hold_out (tr c _ q)]; exact q) fun c xs q => by rw [hold_out (tr c _ q)]; exact q
theorem inv_drop {as : List Addr} {g : Heap} (I : Inv X pins σ (hold H as g) s) (ha : ∀ b ∈ as, H b = none) : Inv X pins σ H s := by
  have tr : ∀ b u, H b = some u → b ∉ as := fun b u e hb => by rw [ha b hb] at e; cases e
  have sub : ∀ b u, hold H as g b = some u → (∀ φ, u ≠ .ext φ) → H b = some u := fun b u e n => by
    by_cases hb : b ∈ as
    · rw [hold_in hb] at e; cases e; exact absurd rfl (n _)
    · rwa [hold_out hb] at e
  have I' := I.step (g' := s.gens) (d' := s.drawn) (t' := s.toks) (ch := []) (h' := s.heap) (H' := H) (fun b hb => nomatch hb) (fun b o _ _ _ e _ => e) (fun b o _ _ _ e _ => ⟨o.slots, e⟩) (fun b o _ e n => ?_) (fun b o _ e => ⟨o, e⟩) (fun b xs e => sub b _ e fun φ z => by cases z) (fun b o u e => sub b _ e fun φ z => by cases z)
    (fun b ps e => ⟨#[], by rw [sub b _ e fun φ z => by cases z]; simp⟩) (fun m hm => hm) (fun b u e => ?_) I.bare
  · exact I'
  · by_cases hb : b ∈ as
    · exact ha b hb
    · rwa [hold_out hb] at n
  · exact (I.hok b u (by rw [hold_out (tr b u e)]; exact e)).stay (fun c v _ q => q) (fun c q => sub c _ q fun φ z => by cases z) fun c xs q => sub c _ q fun φ z => by cases z
theorem hold_get {as : List Addr} {g : Heap} (I : Inv X pins σ (hold H as g) s) {b : Addr} (hb : b ∈ as) : ∀ o, g.get? b = some o → s.heap.get? b = some o := (I.hok b _ (hold_in hb)).1
end
end PV
end
section
set_option linter.all false
set_option Elab.async false
set_option maxRecDepth 100000
set_option maxHeartbeats 4000000
/-! PV22: n = zip(..); return f([.. over n]). -/
namespace PV
open PySem PySem.Spec PyProof.Rows L2
section
variable {N : Nm} {O : Orc} {X : Cx}
/-- a zip at z that nobody has asked yet; behind it H0 -/
def ZipO (N : Nm) (X : Cx) (p : List A × (Sto → Bool)) (Z : Hp) (c : List Addr) (H0 : Hp) (z : Addr) (Hz : Hp) : Prop :=
  ∃ (as : List Addr) (g : Heap) (tn : Nat → Heap → Prop) (J : L2.It), Hz = hold H0 as g ∧ (∀ b ∈ as, H0 b = none ∧ b ∉ X.fs ∧ X.s_0.heap.objs.size ≤ b ∧ ∃ o, g.get? b = some o) ∧ tn 0 g ∧ (∀ elts kk tpos, Turn X.prog X.w X.K (.Tuple elts kk tpos) J as z tn) ∧ (∃ TI TO f0, IsZip g z TI TO f0) ∧ z ∈ as ∧ WalkOk N J Z c H0 p.1 p.2 ∧ p.1.length ≤ Sz
theorem fp_hold {pins : List (Addr × Obj)} {σ : Sl} {H : Hp} {s : Shared} {as : List Addr} {g : Heap} {b : Addr} (I : Inv X pins σ (hold H as g) s) (hb : b ∈ as) (hn : H b = none) (hf : b ∉ X.fs) (hs : X.s_0.heap.objs.size ≤ b) : FpOk X pins H b := by
  have e := hold_in (H := H) (g := g) hb
  refine ⟨hn, fun z => ?_, hf, .inr hs, fun x c q z => ?_, fun p hp z => ?_⟩
  · have := I.free; rw [← z, e] at this; cases this
  · have := I.freeC x c q; rw [z, e] at this; cases this
  · have := (I.pin p hp).2.1; rw [z, e] at this; cases this
theorem we_zip2 (F : Fit N X) {p pos : Pos} {a b : Expr} {x y : Ex} (hg : Gl X "zip") (hm : X.mg "zip" = none) (hs : isStar a = false) (hs2 : isStar b = false) (ha : SndE N O X a x) (hb : SndE N O X b y)
    {Y : WX} (tk : Takes X Y) {env st σ Z c H} (R : RelH N Z c st H) (E : RelE N Z c env σ) {T : VK} (h : Outc N Y σ Z c H (itZip2 x y O env st) (fun q Z' c' H' => ∀ z Hz, ZipO N X q Z' c' H' z Hz → T (.ref z) Hz)) :
    WE X (.Call (.Name "zip" p) [a, b] [] pos) σ H T := by
  intro pins s I
  have k := args2 hs hs2 ha hb tk R E h (T := fun v v' H1 => ∃ k1 k2 : Kd, v = .ref k1.ad ∧ v' = .ref k2.ad ∧ (∃ vs, k1.q N.K H1 vs) ∧ (∃ vs, k2.q N.K H1 vs) ∧ ∃ q Z1 c1, WalkOk N (J2 N.K k1 k2) Z1 c1 H1 q.1 q.2 ∧ q.1.length ≤ Sz ∧ ∀ z Hz, ZipO N X q Z1 c1 H1 z Hz → T (.ref z) Hz) fun w u st1 Z1 c1 H1 v v' x1 R1 rv rv' h1 => by
    obtain ⟨q, e, hz, hq⟩ := itms_ok h1 R1
    unfold zips2 at e
    split at e
    · rename_i l1 l2 e1 e2
      cases e
      obtain ⟨k1, rfl, ⟨vs, q1, _⟩, g1⟩ := srcq_ok R1 rv e1
      obtain ⟨k2, rfl, ⟨us, q2, _⟩, g2⟩ := srcq_ok R1 rv' e2
      exact ⟨k1, k2, rfl, rfl, ⟨vs, q1⟩, ⟨us, q2⟩, _, Z1, c1, walk_zip2 g1 g2, hz, hq⟩
    · cases e
  refine Call_ (ld_blt I hg hm PyProof.Rows.boot_zip (PyProof.Rows.callWith_type1 (thn (k pos pins s I) fun us s1 ⟨vs, H1, I1, r1, v, v', e, k1, k2, e1, e2, ⟨xs, q1⟩, ⟨ys, q2⟩, q, Z1, c1, hw, hsz, fin⟩ => ?_) (star_no hs _ _) (no_star _ _ _ (by simp [hs2]))))
  subst e e1 e2
  cases r1 with
  | cons r rr =>
    cases rr with
    | cons r' rr =>
      cases rr
      cases r
      cases r'
      rw [← F.K] at q1 q2
      obtain ⟨its1, rv1, p1, _⟩ := Kd.items I1 q1
      obtain ⟨its2, rv2, p2, _⟩ := Kd.items I1 q2
      have la := Kd.lt p1
      have lb := Kd.lt p2
      refine zip_begins2 (k1.begins its1.toArray) (k2.begins its2.toArray) p1 p2 fun h' hz hTI hTO h1 h2 hz5 hk => ?_
      have st0 : tn2 (s1.heap.objs.size + 4) (s1.heap.objs.size + 2) (s1.heap.objs.size + 3) s1.heap.objs.size (s1.heap.objs.size + 1) k1 k2 0 h' := ⟨hz, hTI, ⟨_, _, hTO⟩, Kd.st0 h1, Kd.st0 h2⟩
      have mem : ∀ b ∈ [s1.heap.objs.size + 4, s1.heap.objs.size + 2, s1.heap.objs.size + 3, s1.heap.objs.size, s1.heap.objs.size + 1], s1.heap.objs.size ≤ b ∧ ∃ o, h'.get? b = some o := fun b hb => by
        have e' : b = s1.heap.objs.size + 4 ∨ b = s1.heap.objs.size + 2 ∨ b = s1.heap.objs.size + 3 ∨ b = s1.heap.objs.size ∨ b = s1.heap.objs.size + 1 := by simpa using hb
        rcases e' with z | z | z | z | z <;> rw [z]
        · exact ⟨Nat.le_add_right _ _, _, hz⟩
        · exact ⟨Nat.le_add_right _ _, _, hTI⟩
        · exact ⟨Nat.le_add_right _ _, _, hTO⟩
        · exact ⟨Nat.le_refl _, _, h1⟩
        · exact ⟨Nat.le_add_right _ _, _, h2⟩
      have I2 := inv_hold (t' := s1.toks) I1 hk mem
      refine ⟨.ref (s1.heap.objs.size + 4), _, I2, rfl, fin _ _ ⟨_, h', _, J2 N.K k1 k2, rfl, fun b hb => ⟨I1.hok.fresh (mem b hb).1, I1.nofs (mem b hb).1, Nat.le_trans I1.sz (mem b hb).1, (mem b hb).2⟩, st0, fun elts kk tpos => ?_, ⟨_, _, _, hz⟩, by simp, hw, hsz⟩⟩
      rw [← F.K]
      exact turn_zip2 (elts := elts) (kk := kk) (tpos := tpos) (k1 := k1) (k2 := k2) (zip_sep2 (N := s1.heap.objs.size) (fp1 := [k1.ad]) (fp2 := [k2.ad]) (by simpa using la) (by simpa using lb)) (Nat.ne_of_lt la) (Nat.ne_of_lt (Nat.lt_succ_of_lt lb))
theorem wi_zip {i : Nat} {n : PySem.Str} {elts : List Expr} {kk : Nat} {tpos pos : Pos} (hN : X.N[i]? = some n) (hv : Vis X.env.scope n) (hd : (n == ("__debug__" : PySem.Str)) = false) (hcd : (n == ("__classdict__" : PySem.Str)) = false)
    {q : List A × (Sto → Bool)} {Z c H0 z Hz} {σ : Sl} (hz : ZipO N X q Z c H0 z Hz) (hσ : σ[i]? = some (some (.ref z))) {T : L2.It → Hp → Prop} (h : ∀ J, WalkOk N J Z c H0 q.1 q.2 → q.1.length ≤ Sz → T J H0) : WI X (.Tuple elts kk tpos) (.Name n pos) σ Hz T := by
  intro pins s I
  refine thn ((pe_var hN hv hd hcd).run pins s σ Hz (fun v H => v = .ref z ∧ H = Hz) I ⟨_, hσ, rfl, rfl⟩) fun v s1 ⟨y, H1, I1, r, e1, e2⟩ => ?_
  subst e1 e2
  cases r
  obtain ⟨as, g, tn, J, e, ha, st, tu, ⟨TI, TO, f0, iz⟩, hm, hw, hsz⟩ := hz
  subst e
  have k : ∀ b ∈ as, ∀ o, g.get? b = some o → s1.heap.get? b = some o := fun b hb o q => hold_get I1 hb o q
  refine wpAny_pyIter_zip (k z hm _ iz) ⟨z, as, tn, J, H0, rfl, inv_drop I1 fun b hb => (ha b hb).1, tu elts kk tpos, (tu elts kk tpos).keep 0 g s1.heap st k, fun b hb => ?_, h J hw hsz⟩
  obtain ⟨h1, h2, h3, _⟩ := ha b hb
  exact fp_hold I1 hb h1 h2 h3

theorem RelE.hide {Z c env σ} (r : RelE N Z c env σ) (i : Nat) (v : V) : RelE N Z c (env.set i none) (σ.set i (some v)) := by
  refine ⟨by simpa using r.1, fun j w e => ?_⟩
  rw [List.getElem?_set] at e
  split at e
  · split at e <;> cases e
  · rename_i hj
    obtain ⟨u, h1, h2⟩ := r.2 j w e
    exact ⟨u, by rw [List.getElem?_set, if_neg hj]; exact h1, h2⟩
/-- the call of f at one state -/
def FnAt (N : Nm) (X : Cx) (nm : PySem.Str) (f : List A → Option A) : Prop := ∀ {e : Expr} {p pos : Pos} {σ Hz} {Y : WX} {Q : VK}, isStar e = false →
  WA X [e] σ Hz (fun vs H1 => ∃ Z1 c1 st1 l, RelH N Z1 c1 st1 H1 ∧ RpWs N Z1 c1 l vs ∧ Outc N Y σ Z1 c1 H1 (opL f l st1) (fun w Z' c' H' => ∀ v, RpW N Z' c' w v → Q v H')) → WE X (.Call (.Name nm p) [e] [] pos) σ Hz Q
theorem fnAtB {id : String} {x : PySem.Str} {f : List A → Option A} (hc : CallV N X (.builtin id) f) (hg : Gl X x) (hm : X.mg x = none) (hv : bootBuiltins x = some (.builtin id)) (hn : x ≠ "__name__") (hd : (x == ("__debug__" : PySem.Str)) = false) : FnAt N X x f := by
  intro e p pos σ Hz Y Q hs key pins s I
  refine wpAny_Call_Name_kw (ld_blt I hg hm hv ?_ hn hd)
  refine PyProof.Rows.callWith_builtin1 (thn (key pos pins s I) fun us s1 ⟨vs, H1, I1, r1, Z1, c1, st1, l, R1, rl, q⟩ => ?_) (star_no hs _ _) rfl
  obtain ⟨m, r, e1, e2, q⟩ := opL_ok q
  exact thn (hc pins s1 σ Z1 c1 st1 H1 m vs us r I1 R1 (vws_ok R1 rl e1) r1 e2) fun w s' p => p.ep q
theorem fnAtT {T : String} {x : PySem.Str} {f : List A → Option A} (hc : CallV N X (.type T) f) (hg : Gl X x) (hm : X.mg x = none) (hv : bootBuiltins x = some (.type T)) (hn : x ≠ "__name__") (hd : (x == ("__debug__" : PySem.Str)) = false) : FnAt N X x f := by
  intro e p pos σ Hz Y Q hs key pins s I
  refine wpAny_Call_Name_kw (ld_blt I hg hm hv ?_ hn hd)
  refine PyProof.Rows.callWith_type1 (thn (key pos pins s I) fun us s1 ⟨vs, H1, I1, r1, Z1, c1, st1, l, R1, rl, q⟩ => ?_) (star_no hs _ _) rfl
  obtain ⟨m, r, e1, e2, q⟩ := opL_ok q
  exact thn (hc pins s1 σ Z1 c1 st1 H1 m vs us r I1 R1 (vws_ok R1 rl e1) r1 e2) fun w s' p => p.ep q
theorem eFn_one (f : List A → Option A) (x : Ex) (O : Orc) (e : Env) (st : Sto) : eFn f (esCons x esNil) O e st = (x O e st).bind fun w st2 => opL f [w] st2 := by
  unfold eFn esCons
  cases x O e st <;> rfl
theorem sndss_zipR (F : Fit N X) {i : Nat} {n nm : PySem.Str} {ze elt : Expr} {elts ifs : List Expr} {kk : Nat} {tpos np p1 p2 p3 p4 p5 p6 : Pos} {scope : Scope} {own : List (PySem.Str × Nat)} {it : PV.It} {g : Tg} {t : Te} {x : Ex} {f : List A → Option A}
    (ho : Own X i n) (hlt : i < X.N.length) (hv : Vis X.env.scope n) (hd : (n == ("__debug__" : PySem.Str)) = false) (hcd : (n == ("__classdict__" : PySem.Str)) = false) (hc : isComp ze = false)
    (hz : ∀ (Y : WX), Takes X Y → ∀ env st σ Z c H, RelH N Z c st H → RelE N Z c env σ → ∀ T : VK, Outc N Y σ Z c H (it O env st) (fun q Z' c' H' => ∀ z Hz, ZipO N X q Z' c' H' z Hz → T (.ref z) Hz) → WE X ze σ H T)
    (hf : FnAt N X nm f) (hb : BlkOk X.N X.env.scope scope own) (hsl : ∀ i ∈ g.slots, i ∈ own.map (·.2))
    (hg : inB X scope fun X => SndG N X (.Tuple elts kk tpos) g) (ht : inB X scope fun X => SndTs N O X ifs t) (he : inB X scope fun X => SndE N O X elt x) :
    SndSs N O X [.Assign [.Name n np] ze p1, .Return (some (.Call (.Name nm p2) [.ListComp elt [⟨.Tuple elts kk tpos, .Name n p3, ifs, 0⟩] scope p4] [] p5)) p6] (sZipR i it g (own.map (·.2)) t x f) := by
  intro Y tk env st σ Z c H R E D h pins s I
  have hl : i < σ.length := by rw [I.len]; exact hlt
  refine WSs.of (pss_cons (WS.ps X _) (WSs.ps X _)) (WS.of (ps_set F.nd ho.ix ho.loc (WE.pe X ze) (swaps_no hc _ _ _) ho.fn) (hz Y tk env st σ Z c H R E _ (Outc.mono (OutS.to E h) (Ext.refl ..) fun q Z1 c1 H1 _ ⟨st1, R1, x1, h1⟩ z Hz hz => ?_))) pins s I
  have E1 : RelE N Z1 c1 (env.set i none) (σ.set i (some (.ref z))) := (E.mono x1).hide i _
  refine WSs.of (pss_cons (WS.ps X _) (WSs.ps X _)) (WS.of (ps_ret (WE.pe X _)) (hf (Y := Y) rfl ?_))
  have hσ : (σ.set i (some (V.ref z)))[i]? = some (some (.ref z)) := by
    simp [hl]
  have h1 : OutS N Y Z1 c1 H1 D (((eLc (fun _ _ st => .ok q st) g (own.map (·.2)) t x O (env.set i none) st1).bind fun w st2 => opL f [w] st2).to (env.set i none) fun w st2 => .rt w st2) := by rw [← eFn_one]; exact h1
  have h2 := OutS.to E1 h1
  refine WA.of (pa_cons (WE.pe X _) pa_nil rfl) (WE.of (pe_lc F.calm F.nd (WI.pi X _ _) hb bG_pg bT_pt bE_pe) ?_)
  refine lc_core0 (X := X) (O := O) F hsl (H := H1) ?_ ?_ ?_ tk R1 E1 (fun T hT => wi_zip (X := X) ho.ix hv hd hcd hz hσ (hT Z1 c1 H1 (Ext.refl ..) R1)) (it := fun _ _ st => .ok q st) (g := g) (t := t) (x := x) ?_
  · exact fun a v env env' st σ Z c H' R' E' r hp Q hQ s0 H0 C cl fp => hg s0 H0 C cl fp a v env env' st σ Z c H' R' E' r hp Q hQ
  · exact fun env st σ Z c H R E Q q s0 H0 C cl fp => ht s0 H0 C cl fp NoX takes0 env st σ Z c H R E Q q
  · exact fun env st σ Z c H R E Q q s0 H0 C cl fp => he s0 H0 C cl fp NoX takes0 env st σ Z c H R E Q q
  · refine Outc.mono h2.bind (Ext.refl ..) fun w Z2 c2 H2 _ ⟨st2, R2, x2, h3⟩ l vs p o hw ho' hp hzz rl => ?_
    subst hw ho'
    obtain ⟨x3, R3⟩ := ext_new (o := .lst vs) R2 hp
    refine ⟨_, c2, st2, [.v (.lst l)], R3, .cons (.lst (SqL.of upd_same) (rl.mono x3.zz)) .nil, Outc.mono h3 x3 fun u Z4 c4 H4 x4 ⟨st4, R4, _, h5⟩ v rv => h5 Z4 c4 H4 v (Ext.refl ..) R4 rv⟩
end
end PV
end
section
set_option linter.all false
set_option Elab.async false
set_option maxRecDepth 100000
set_option maxHeartbeats 4000000
/-! PV23: calls of own defs with keywords. -/
namespace PV
open PySem PySem.Spec PyProof.Rows L2

section
variable {N : Nm} {O : Orc} {X : Cx}
structure CalleeK (N : Nm) (O : Orc) (X : Cx) (lv : Nat) (i : Nat) (x : PySem.Str) (np n : Nat) (ks : List PySem.Str) (perm : List Nat) : Prop where
  len : perm.length = np
  lt : ∀ j ∈ perm, j < n + ks.length
  ex : ∃ f fd ps, X.mg x = some (.ref f) ∧ Fk X.prog X.w X.K X.mg X.base lv f fd ps (spOf N O i np) ∧ PySem.W.keepIn X.K (.ref f) = true ∧ ps.length = np ∧
    ∀ (s : Shared) (us ws : List Value), X.K.In s.heap → us.length = n → ws.length = ks.length → BindsTo s fd ⟨us, ks.zip ws⟩ (ps.zip (selF perm (us ++ ws)))
theorem selF_len {α : Type} {perm : List Nat} {l : List α} (h : ∀ j ∈ perm, j < l.length) : (selF perm l).length = perm.length := by
  unfold selF
  induction perm with
  | nil => rfl
  | cons j p ih =>
    have hj := h j List.mem_cons_self
    rw [List.filterMap_cons, List.getElem?_eq_getElem hj]
    simp [ih fun k hk => h k (List.mem_cons_of_mem _ hk)]
theorem RpWs.getw {Z c} : ∀ {l vs}, RpWs N Z c l vs → ∀ {j : Nat} {w : PV.W}, l[j]? = some w → ∃ v, vs[j]? = some v ∧ RpW N Z c w v
  | _, _, .nil, j, w, h => by simp at h
  | _, _, .cons a r, 0, w, h => by simp at h; subst h; exact ⟨_, rfl, a⟩
  | _, _, .cons a r, j + 1, w, h => by simpa using RpWs.getw r (by simpa using h)
theorem RpWs.sel {Z c} {l : List PV.W} {vs : List V} (r : RpWs N Z c l vs) : ∀ perm : List Nat, (∀ j ∈ perm, j < l.length) → RpWs N Z c (selF perm l) (selF perm vs)
  | [], _ => .nil
  | j :: p, h => by
    have hj := h j List.mem_cons_self
    obtain ⟨v, h1, h2⟩ := r.getw (List.getElem?_eq_getElem hj)
    unfold selF
    rw [List.filterMap_cons, List.filterMap_cons, List.getElem?_eq_getElem hj, h1]
    exact .cons h2 (RpWs.sel r p fun k hk => h k (List.mem_cons_of_mem _ hk))
theorem Vals.getv : ∀ {vs : List V} {us : List Value}, Vals vs us → ∀ {j : Nat} {v : V}, vs[j]? = some v → ∃ u, us[j]? = some u ∧ RelV v u
  | _, _, .nil, j, w, h => by simp at h
  | _, _, .cons a r, 0, w, h => by simp at h; subst h; exact ⟨_, rfl, a⟩
  | _, _, .cons a r, j + 1, w, h => by simpa using Vals.getv r (by simpa using h)
theorem vals_sel {vs : List V} {us : List Value} (r : Vals vs us) : ∀ perm : List Nat, (∀ j ∈ perm, j < vs.length) → Vals (selF perm vs) (selF perm us)
  | [], _ => .nil
  | j :: p, h => by
    have hj := h j List.mem_cons_self
    obtain ⟨v, h1, h2⟩ := Vals.getv r (List.getElem?_eq_getElem hj)
    unfold selF
    rw [List.filterMap_cons, List.filterMap_cons, List.getElem?_eq_getElem hj, h1]
    exact .cons h2 (vals_sel r p fun k hk => h k (List.mem_cons_of_mem _ hk))
theorem CalleeK.run {lv i np n : Nat} {x : PySem.Str} {ks : List PySem.Str} {perm : List Nat} (F : Fit N X) (C : CalleeK N O X lv i x np n ks perm) (rm : Room lv X.A) : ∃ f, X.mg x = some (.ref f) ∧ PySem.W.keepIn X.K (.ref f) = true ∧
    ∀ {Y : WX} (tk : Takes X Y) {pins σ} {us ws : List Value} {s1 : Shared} {vs zs : List V} {Z1 c1 H1 st1} {l m : List PV.W} {Q : VK}, Inv X pins σ H1 s1 → RelH N Z1 c1 st1 H1 → RpWs N Z1 c1 l vs → RpWs N Z1 c1 m zs → l.length = n → m.length = ks.length → Vals vs us → Vals zs ws →
      Outc N Y σ Z1 c1 H1 (O i (selF perm (l ++ m)) st1) (fun w Z' c' H' => ∀ v, RpW N Z' c' w v → Q v H') →
      wpAny (model X.prog X.w) X.A (PySem.call (.ref f) us (ks.zip ws)) (EP X pins σ Q) X.xe s1 := by
  obtain ⟨f, fd, ps, mgx, Fk, kp, hps, hbd⟩ := C.ex
  refine ⟨f, mgx, kp, ?_⟩
  intro Y tk pins σ us ws s1 vs zs Z1 c1 H1 st1 l m Q I1 R1 rl rm' hl hm rv rz h
  have r0 := rl.append rm'
  have v0 := rv.append rz
  have lt1 : ∀ j ∈ perm, j < (l ++ m).length := fun j hj => by rw [List.length_append, hl, hm]; exact C.lt j hj
  have lt2 : ∀ j ∈ perm, j < (vs ++ zs).length := fun j hj => by rw [← r0.length]; exact lt1 j hj
  have q : spOf N O i np (selF perm (vs ++ zs)) H1 Q (fun cls d H' => Y cls d σ H') := by
    refine ⟨Z1, c1, st1, _, ?_, R1, r0.sel perm lt1, ?_⟩
    · rw [selF_len lt1, C.len]
    · cases eO : O i (selF perm (l ++ m)) st1 with
      | ok w st2 => rw [eO] at h; exact h
      | exc k fs st2 => rw [eO] at h; exact h
      | bad => rw [eO] at h; exact h.elim
  exact Fk.call tk (ar := ⟨us, ks.zip ws⟩) rm F.gu (hbd s1 us ws I1.kIn (by rw [← rv.length, ← rl.length, hl]) (by rw [← rz.length, ← rm'.length, hm])) I1 (vals_sel v0 perm lt2) q
/-- keywords, each with its value -/
def SndK (N : Nm) (O : Orc) (X : Cx) (kws : List Keyword) (xs : Es) : Prop := ∀ (Y : WX), Takes X Y → ∀ env st σ Z c H, RelH N Z c st H → RelE N Z c env σ → ∀ Q : List V → Hp → Prop,
  Outc N Y σ Z c H (xs O env st) (fun l Z' c' H' => ∀ vs, RpWs N Z' c' l vs → Q vs H') → ∀ (pos : Pos) (pins : List (Addr × Obj)) (s : Shared), Inv X pins σ H s → wpAny (model X.prog X.w) X.A (evalAll ((backToKw pos (keywordEach kws X.env)).map (·.2))) (AP X pins σ Q) X.xe s
def WK (X : Cx) (kws : List Keyword) (σ : Sl) (H : Hp) (Q : List V → Hp → Prop) : Prop := ∀ (pos : Pos) (pins : List (Addr × Obj)) (s : Shared), Inv X pins σ H s → wpAny (model X.prog X.w) X.A (evalAll ((backToKw pos (keywordEach kws X.env)).map (·.2))) (AP X pins σ Q) X.xe s
theorem WK.pk (X : Cx) (kws : List Keyword) : PK X kws (WK X kws) := ⟨fun pos pins s σ H Q I h => h pos pins s I⟩
theorem sndk_nil : SndK N O X [] esNil := by
  intro Y tk env st σ Z c H R E Q h pos pins s I
  exact pk_nil.run pos pins s σ H Q I (h.okk R [] .nil)
theorem sndk_cons {nm : Option PySem.Str} {e : Expr} {kpos : Pos} {kws : List Keyword} {x : Ex} {xs : Es} (ha : SndE N O X e x) (hb : SndK N O X kws xs) : SndK N O X (⟨nm, e, kpos⟩ :: kws) (esCons x xs) := by
  intro Y tk env st σ Z c H R E Q h pos pins s I
  refine (pk_cons (nm := nm) (kpos := kpos) (WE.pe X e) (WK.pk X kws)).run pos pins s σ H Q I ?_
  refine ha Y tk env st σ Z c H R E _ (Outc.mono h.bind (Ext.refl ..) fun w Z1 c1 H1 _ ⟨st1, R1, x1, h1⟩ v rv => ?_)
  refine hb Y tk env st1 σ Z1 c1 H1 R1 (E.mono x1) _ (Outc.mono h1.bind (Ext.refl ..) fun l Z2 c2 H2 _ ⟨st2, R2, x2, h2⟩ vs rvs => ?_)
  exact h2.okk R2 _ (.cons (rv.mono x2) rvs)
theorem snd_callK {lv i np n : Nat} {x : PySem.Str} {ks : List PySem.Str} {perm : List Nat} {e : Expr} {es : List Expr} {kws : List Keyword} {xs ys : Es} {p pos : Pos} (F : Fit N X) (C : CalleeK N O X lv i x np n ks perm) (rm : Room lv X.A) (hg : Gl X x) (hd : (x == ("__debug__" : PySem.Str)) = false)
    (hst : (e :: es).all (fun e => !isStar e) = true) (hl : ∀ env st l st1, xs O env st = .ok l st1 → l.length = n) (hl2 : ∀ env st l st1, ys O env st = .ok l st1 → l.length = ks.length)
    (hall : (backToKw pos (keywordEach kws X.env)).all (·.1.isSome) = true) (hno : (backToKw pos (keywordEach kws X.env)).any (·.1.isNone) = false) (hks : (backToKw pos (keywordEach kws X.env)).filterMap (·.1) = ks) (ha : SndA N O X (e :: es) xs) (hk : SndK N O X kws ys) :
    SndE N O X (.Call (.Name x p) (e :: es) kws pos) (eCallK i perm xs ys) := by
  intro Y tk env st σ Z c H R E Q h pins s I
  obtain ⟨f, mgx, kp, run⟩ := C.run F rm
  refine wpAny_Call_Name_kw (ld_glob I hg mgx ?_ hd)
  have hs := hst
  simp only [List.all_cons, Bool.and_eq_true, Bool.not_eq_true'] at hs
  have key : WA X (e :: es) σ H fun vs H1 => WK X kws σ H1 fun zs H2 => ∃ Z2 c2 st2 l m, RelH N Z2 c2 st2 H2 ∧ RpWs N Z2 c2 l vs ∧ RpWs N Z2 c2 m zs ∧ l.length = n ∧ m.length = ks.length ∧ Outc N Y σ Z2 c2 H2 (O i (selF perm (l ++ m)) st2) (fun w Z' c' H' => ∀ v, RpW N Z' c' w v → Q v H') := by
    refine ha Y tk env st σ Z c H R E _ ?_
    have h : Outc N Y σ Z c H ((xs O env st).bind fun l st1 => (ys O env st1).bind fun m st2 => O i (selF perm (l ++ m)) st2) _ := h
    cases ex : xs O env st with
    | ok l st1 =>
      rw [ex] at h
      intro Z1 c1 H1 x1 R1 vs rvs
      refine hk Y tk env st1 σ Z1 c1 H1 R1 (E.mono x1) _ ?_
      have h : Outc N Y σ Z c H ((ys O env st1).bind fun m st2 => O i (selF perm (l ++ m)) st2) _ := h
      cases ey : ys O env st1 with
      | ok m st2 =>
        rw [ey] at h
        exact fun Z2 c2 H2 x2 R2 zs rzs => ⟨Z2, c2, st2, l, m, R2, rvs.mono x2, rzs, hl env st l st1 ex, hl2 env st1 m st2 ey, Outc.mono h (x1.trans x2) fun _ _ _ _ _ q => q⟩
      | exc k fs st2 => rw [ey] at h; exact fun Z' c' H' cls d x' R' e => h Z' c' H' cls d (x1.trans x') R' e
      | bad => rw [ey] at h; exact h.elim
    | exc k fs st1 => rw [ex] at h; exact h
    | bad => rw [ex] at h; exact h.elim
  refine PySem.W.callWith_KW (h₀ := X.base) I.ok.mod.kin kp hall (thn (key pos pins s I) fun us s1 ⟨vs, H1, I1, r1, q1⟩ => ?_) (by rw [no_star _ _ (e :: es) hst, hno]; rfl) (star_no hs.1 _ _)
  refine thn (q1 pos pins s1 I1) fun ws s2 ⟨zs, H2, I2, r2, Z2, c2, st2, l, m, R2, rl, rm2, e1, e2, q⟩ => ⟨I2.kIn, ?_⟩
  rw [hks]
  exact run tk I2 R2 rl rm2 e1 e2 r1 r2 q
theorem snd_callK0 {lv i np : Nat} {x : PySem.Str} {ks : List PySem.Str} {perm : List Nat} {kws : List Keyword} {ys : Es} {p pos : Pos} (F : Fit N X) (C : CalleeK N O X lv i x np 0 ks perm) (rm : Room lv X.A) (hg : Gl X x) (hd : (x == ("__debug__" : PySem.Str)) = false)
    (hl2 : ∀ env st l st1, ys O env st = .ok l st1 → l.length = ks.length)
    (hall : (backToKw pos (keywordEach kws X.env)).all (·.1.isSome) = true) (hno : (backToKw pos (keywordEach kws X.env)).any (·.1.isNone) = false) (hks : (backToKw pos (keywordEach kws X.env)).filterMap (·.1) = ks) (hk : SndK N O X kws ys) :
    SndE N O X (.Call (.Name x p) [] kws pos) (eCallK i perm esNil ys) := by
  intro Y tk env st σ Z c H R E Q h pins s I
  obtain ⟨f, mgx, kp, run⟩ := C.run F rm
  refine wpAny_Call_Name_kw (ld_glob I hg mgx ?_ hd)
  have key : WK X kws σ H fun zs H2 => ∃ Z2 c2 st2 m, RelH N Z2 c2 st2 H2 ∧ RpWs N Z2 c2 m zs ∧ m.length = ks.length ∧ Outc N Y σ Z2 c2 H2 (O i (selF perm ([] ++ m)) st2) (fun w Z' c' H' => ∀ v, RpW N Z' c' w v → Q v H') := by
    refine hk Y tk env st σ Z c H R E _ ?_
    have h : Outc N Y σ Z c H ((ys O env st).bind fun m st2 => O i (selF perm ([] ++ m)) st2) _ := h
    cases ey : ys O env st with
    | ok m st2 =>
      rw [ey] at h
      exact fun Z2 c2 H2 x2 R2 zs rzs => ⟨Z2, c2, st2, m, R2, rzs, hl2 env st m st2 ey, Outc.mono h x2 fun _ _ _ _ _ q => q⟩
    | exc k fs st2 => rw [ey] at h; exact h
    | bad => rw [ey] at h; exact h.elim
  refine PySem.W.callWith_KW0 (h₀ := X.base) I.ok.mod.kin kp hall (thn (key pos pins s I) fun ws s2 ⟨zs, H2, I2, r2, Z2, c2, st2, m, R2, rm2, e2, q⟩ => ⟨I2.kIn, ?_⟩) (by rw [hno]; rfl)
  rw [hks]
  exact run tk (l := []) (vs := []) (us := []) I2 R2 .nil rm2 rfl e2 .nil r2 q
end
end PV
end
section
set_option linter.all false
set_option Elab.async false
set_option maxRecDepth 100000
set_option maxHeartbeats 4000000
/-! PV24: what is known of a place in the program. -/
namespace PV
open PySem PySem.Spec PyProof.Rows L2
/-- a way to call with keywords: how many stand ahead, the keywords, the places of the parameters -/
structure KwPat where
  n : Nat
  ks : List PySem.Str
  perm : List Nat
/-- what a global name is -/
inductive Gv
  | fn (i np : Nat) (ds : List A) (pats : List KwPat)
  | con (a : A)
  | blt
structure Lx where
  N : List PySem.Str
  names : List (PySem.Str × NameKind)
  top : Bool
  g : List (PySem.Str × Gv)
  /-- names whose lists change; whether what is returned changes -/
  chg : List PySem.Str
  chgRet : Bool
namespace Lx
def gv (L : Lx) (x : PySem.Str) : Option Gv := if L.names.lookup x = some .globalImplicit then (if (x == ("__debug__" : PySem.Str)) then none else L.g.lookup x) else none
def ix (l : List PySem.Str) (x : PySem.Str) : Option Nat := match l with
  | [] => none
  | y :: l => if y = x then some 0 else (ix l x).map (· + 1)
theorem ix_ok : ∀ {l : List PySem.Str} {x : PySem.Str} {i : Nat}, ix l x = some i → l[i]? = some x
  | [], _, _, h => by cases h
  | y :: l, x, i, h => by
    unfold ix at h
    split at h
    · rename_i e; cases h; simp [e]
    · cases e : ix l x with
      | none => rw [e] at h; cases h
      | some j => rw [e] at h; cases h; simpa using ix_ok e
/-- a name that is seen -/
def slot (L : Lx) (x : PySem.Str) : Option Nat := match L.names.lookup x with
  | some .local => if x == ("__debug__" : PySem.Str) || x == ("__classdict__" : PySem.Str) then none else ix L.N x
  | some .cell => if x == ("__debug__" : PySem.Str) || x == ("__classdict__" : PySem.Str) then none else ix L.N x
  | some .free => if x == ("__debug__" : PySem.Str) || x == ("__classdict__" : PySem.Str) then none else ix L.N x
  | _ => none
/-- a name that is stored to -/
def own (L : Lx) (x : PySem.Str) : Option Nat := match L.names.lookup x with
  | some .local => ix L.N x
  | some .cell => ix L.N x
  | _ => none
/-- the names of a block that have slots -/
def blkOwn (L : Lx) (sc : Scope) : List (PySem.Str × Nat) := sc.names.filterMap fun y => match y.2 with
  | .local => (ix L.N y.1).map fun i => (y.1, i)
  | .cell => (ix L.N y.1).map fun i => (y.1, i)
  | _ => none
def blk (L : Lx) (sc : Scope) : Lx := { L with names := sc.names, top := false }
def isFn (k : ScopeKind) : Bool := match k with
  | .function => true
  | _ => false
/-- a block may be walked -/
def blkC (L : Lx) (sc : Scope) : Bool := isFn sc.kind && (sc.names.all fun y => decide (sc.names.lookup y.1 = some y.2)) &&
  sc.names.all fun y => match y.2 with
    | .free => (match L.names.lookup y.1 with
      | some .cell => true
      | some .free => true
      | _ => false)
    | _ => true
theorem ix_none : ∀ {l : List PySem.Str} {x : PySem.Str}, ix l x = none → x ∉ l
  | [], _, _, hm => by cases hm
  | y :: l, x, h, hm => by
    unfold ix at h
    split at h
    · cases h
    · rename_i e
      rcases List.mem_cons.mp hm with q | q
      · exact e q.symm
      · cases e2 : ix l x with
        | none => exact ix_none e2 q
        | some j => rw [e2] at h; cases h
end Lx
section
variable (N : Nm) (O : Orc) (lv : Nat)
def GvOk (X : Cx) (x : PySem.Str) : Gv → Prop
  | .fn i np ds pats => Callee N O X lv i x np ds ∧ (∀ p ∈ pats, CalleeK N O X lv i x np p.n p.ks p.perm) ∧ (np = 1 → ∃ fa, X.mg x = some (.ref fa) ∧ KeyFn N O X i fa)
  | .con a => ∃ v u, X.mg x = some u ∧ RelV v u ∧ ∀ Z, Rp N Z a v
  | .blt => X.mg x = none
/-- a name's kind, as the running scope tells it -/
def KindOk (X : Cx) (x : PySem.Str) : NameKind → Prop
  | .local => X.env.scope.names.lookup x = some .local
  | .cell => X.env.scope.names.lookup x = some .cell ∧ X.fn x = true
  | .free => X.env.scope.names.lookup x = some .cell ∨ X.env.scope.names.lookup x = some .free
  | .globalImplicit => Gl X x
  | _ => True
structure Ok (L : Lx) (X : Cx) : Prop where
  fit : Fit N X
  nm : X.N = L.N
  kd : ∀ x k, L.names.lookup x = some k → KindOk X x k
  gl : ∀ x v, L.g.lookup x = some v → GvOk N O lv X x v
  rm : Room lv X.A
  kind : L.top = true → X.env.scope.kind = .function
  pass : L.top = true → PassesOwn (model X.prog X.w) X.A X.env X.xe
end
section
variable {N : Nm} {O : Orc} {lv : Nat} {L : Lx} {X : Cx}
theorem Ok.gv {x : PySem.Str} {v : Gv} (K : Ok N O lv L X) (h : L.gv x = some v) : Gl X x ∧ (x == ("__debug__" : PySem.Str)) = false ∧ GvOk N O lv X x v := by
  unfold Lx.gv at h
  split at h
  · rename_i e
    split at h
    · cases h
    · rename_i hd
      exact ⟨K.kd x _ e, by simpa using hd, K.gl x v h⟩
  · cases h
theorem Ok.slot {x : PySem.Str} {i : Nat} (K : Ok N O lv L X) (h : L.slot x = some i) : X.N[i]? = some x ∧ Vis X.env.scope x ∧ (x == ("__debug__" : PySem.Str)) = false ∧ (x == ("__classdict__" : PySem.Str)) = false := by
  have go : ∀ {k}, L.names.lookup x = some k → (KindOk X x k → Vis X.env.scope x) → (if x == ("__debug__" : PySem.Str) || x == ("__classdict__" : PySem.Str) then none else Lx.ix L.N x) = some i → X.N[i]? = some x ∧ Vis X.env.scope x ∧ (x == ("__debug__" : PySem.Str)) = false ∧ (x == ("__classdict__" : PySem.Str)) = false := by
    intro k e hv h
    split at h
    · cases h
    · rename_i hd
      simp only [Bool.or_eq_true, not_or, Bool.not_eq_true] at hd
      exact ⟨by rw [K.nm]; exact Lx.ix_ok h, hv (K.kd x _ e), hd.1, hd.2⟩
  unfold Lx.slot at h
  split at h
  · rename_i e; exact go e (fun q => .inl q) h
  · rename_i e; exact go e (fun q => .inr (.inl q.1)) h
  · rename_i e; exact go e (fun q => q.elim (fun q => .inr (.inl q)) fun q => .inr (.inr q)) h
  · cases h
theorem Ok.own {x : PySem.Str} {i : Nat} (K : Ok N O lv L X) (h : L.own x = some i) : Own X i x := by
  unfold Lx.own at h
  split at h
  · rename_i e
    have q : X.env.scope.names.lookup x = some .local := K.kd x _ e
    exact ⟨by rw [K.nm]; exact Lx.ix_ok h, .inl q, .inr q⟩
  · rename_i e
    have q : X.env.scope.names.lookup x = some .cell ∧ X.fn x = true := K.kd x _ e
    exact ⟨by rw [K.nm]; exact Lx.ix_ok h, .inr q.1, .inl q.2⟩
  · cases h
theorem Ok.blkOk {sc : Scope} (K : Ok N O lv L X) (h : L.blkC sc = true) : BlkOk X.N X.env.scope sc (L.blkOwn sc) := by
  unfold Lx.blkC at h
  simp only [Bool.and_eq_true, List.all_eq_true, decide_eq_true_eq] at h
  obtain ⟨⟨h1, h2⟩, h3⟩ := h
  refine ⟨?_, h2, fun p hp => ?_, fun y hy e => ?_, fun y hy e => ?_⟩
  · cases ek : sc.kind <;> rw [ek] at h1 <;> first | rfl | cases h1
  · obtain ⟨y, _, hy⟩ := List.mem_filterMap.mp hp
    rw [K.nm]
    split at hy
    all_goals first | cases hy | skip
    all_goals (cases e : Lx.ix L.N y.1 <;> rw [e] at hy <;> cases hy; exact Lx.ix_ok e)
  · have q := h3 y hy
    rw [e] at q
    simp only at q
    split at q
    · rename_i e2
      exact .inl (K.kd _ _ e2 : _ ∧ _).1
    · rename_i e2
      exact (K.kd _ _ e2 : _ ∨ _)
    · cases q
  · cases e2 : Lx.ix L.N y.1 with
    | none => rw [K.nm]; exact .inr (Lx.ix_none e2)
    | some i =>
      left
      refine List.mem_map.mpr ⟨(y.1, i), List.mem_filterMap.mpr ⟨y, hy, ?_⟩, rfl⟩
      rcases e with e | e <;> rw [e] <;> simp [e2]
theorem lookup_rel {c : Bool} {d : PySem.Str → Bool} {x : PySem.Str} {k : NameKind} : ∀ {names : List (PySem.Str × NameKind)}, names.lookup x = some k → (names.map fun (n, k) => if (k == .free && c && d n) then (n, .cell) else (n, k)).lookup x = some (if (k == .free && c && d x) then .cell else k)
  | [], h => by cases h
  | (n, k') :: r, h => by
    rw [List.lookup_cons] at h
    rw [List.map_cons, List.lookup_cons]
    have e1 : (if (k' == .free && c && d n) then (n, NameKind.cell) else (n, k')).1 = n := by split <;> rfl
    cases hx : x == n with
    | true =>
      rw [hx] at h
      cases h
      have : x = n := by simpa using hx
      subst this
      simp only [e1, beq_self_eq_true]
      split <;> rfl
    | false =>
      rw [hx] at h
      simp only [e1, hx]
      exact lookup_rel h
theorem callee_blk {i np : Nat} {x : PySem.Str} {ds : List A} {s H sc ce fp} (C : Callee N O X lv i x np ds) : Callee N O (X.blk s H sc ce fp) lv i x np ds := ⟨C.ex⟩
theorem calleeK_blk {i np n : Nat} {x : PySem.Str} {ks perm} {s H sc ce fp} (C : CalleeK N O X lv i x np n ks perm) : CalleeK N O (X.blk s H sc ce fp) lv i x np n ks perm := ⟨C.len, C.lt, C.ex⟩
theorem keyFn_blk {i fa : Nat} {s H sc ce fp} (C : KeyFn N O X i fa) : KeyFn N O (X.blk s H sc ce fp) i fa := ⟨C.ex⟩
theorem gvOk_blk {x : PySem.Str} {v : Gv} {s H sc ce fp} (h : GvOk N O lv X x v) : GvOk N O lv (X.blk s H sc ce fp) x v := by
  cases v with
  | fn i np ds pats => exact ⟨callee_blk h.1, fun p hp => calleeK_blk (h.2.1 p hp), fun e => let ⟨fa, h1, h2⟩ := h.2.2 e; ⟨fa, h1, keyFn_blk h2⟩⟩
  | con a => exact h
  | blt => exact h
theorem Ok.blk {sc : Scope} (K : Ok N O lv L X) (s : Shared) (H : Hp) (C : Addr) (cl : List (PySem.Str × Addr)) (fp : List Addr) : Ok N O lv (L.blk sc) (X.blk s H sc (compEnvC sc cl C X.env) fp) := by
  refine ⟨blk_fit K.fit .., K.nm, fun x k e => ?_, fun x v e => gvOk_blk (K.gl x v e), K.rm, (fun h => nomatch h), fun h => nomatch h⟩
  have q := lookup_rel (c := X.env.scope.kind == .function) (d := fun n => X.env.kindOf n == some .cell) (x := x) (k := k) (names := sc.names) e
  have q : (compEnvC sc cl C X.env).scope.names.lookup x = some (if (k == .free && (X.env.scope.kind == .function) && (X.env.kindOf x == some .cell)) then .cell else k) := q
  cases k with
  | «local» => exact q
  | cell =>
    refine ⟨q, ?_⟩
    show (sc.names.lookup x == some .cell) = true
    rw [show sc.names.lookup x = some .cell from e]
    rfl
  | free =>
    show (compEnvC sc cl C X.env).scope.names.lookup x = some .cell ∨ _
    rw [q]
    split
    · exact .inl rfl
    · exact .inr rfl
  | globalExplicit => trivial
  | globalImplicit => exact q
end
end PV
end
section
set_option linter.all false
set_option Elab.async false
set_option maxRecDepth 100000
set_option maxHeartbeats 4000000
/-! PV25: from syntax to combinators. -/
namespace PV
open PySem PySem.Spec PyProof.Rows L2

/-- what each part means; below some depth nothing does -/
structure Den where
  E : Lx → Expr → Ex
  T : Lx → Expr → Te
  W : Lx → Expr → Te
  S : Lx → Stmt → Stm
  B : Lx → List Stmt → Stm
  G : Lx → Expr → Option Tg
  I : Lx → Expr → Expr → It
  F : Lx → Expr → Ex
def den0 : Den := ⟨fun _ _ => eBad, fun _ _ => tBad, fun _ _ => tBad, fun _ _ => sBad, fun _ _ => sBad, fun _ _ => none, fun _ _ _ => itBad, fun _ _ => eBad⟩
def binF : Operator → Option (A → A → Option A)
  | .Add => some fAdd
  | .Sub => some fSub
  | .Mult => some fMul
  | .FloorDiv => some fDiv
  | .Mod => some fMod
  | .Pow => some fPow
  | _ => none
def cmpF : CmpOp → (A → A → Option A)
  | .Eq => fEq
  | .NotEq => fNe
  | .Lt => fLt
  | .LtE => fLe
  | .Gt => fGt
  | .GtE => fGe
  | .Is => fIs
  | .IsNot => fIsn
  | .In => fIn
  | .NotIn => fNin
/-- built-in functions, and types that are called -/
inductive Bf
  | fn (id : String) (f : List A → Option A)
  | ty (id : String) (f : List A → Option A)
def Bf.f : Bf → List A → Option A
  | .fn _ f => f
  | .ty _ f => f
def bltF (isi : List A → Option A) (x : PySem.Str) : Option Bf :=
  if x = "len" then some (.fn "len" bLen) else if x = "abs" then some (.fn "abs" bAbs) else if x = "max" then some (.fn "max" bMax) else if x = "min" then some (.fn "min" bMin)
  else if x = "all" then some (.fn "all" bAll) else if x = "any" then some (.fn "any" bAny) else if x = "sum" then some (.fn "sum" bSum) else if x = "sorted" then some (.fn "sorted" bSortedC)
  else if x = "isinstance" then some (.fn "isinstance" isi)
  else if x = "int" then some (.ty "int" bInt) else if x = "bool" then some (.ty "bool" bBool) else if x = "str" then some (.ty "str" bStr) else if x = "tuple" then some (.ty "tuple" bTuple) else if x = "list" then some (.ty "list" bListD)
  else if x = "dict" then some (.ty "dict" bDict) else none
def tyIx (x : PySem.Str) : Option Nat :=
  if x = "bool" then some 1 else if x = "int" then some 2 else if x = "str" then some 3 else if x = "tuple" then some 4 else if x = "list" then some 5 else if x = "dict" then some 6 else none
/-- arguments, displays -/
def denA (d : Den) (L : Lx) : List Expr → Es
  | [] => esNil
  | .Starred e _ :: es => esStar (d.E L e) (denA d L es)
  | e :: es => esCons (d.E L e) (denA d L es)
def denK (d : Den) (L : Lx) : List Keyword → Es
  | [] => esNil
  | k :: ks => esCons (d.E L k.value) (denK d L ks)
def optE (d : Den) (L : Lx) : Option Expr → Option Ex
  | none => none
  | some e => some (d.E L e)
def kwNames : List Keyword → Option (List PySem.Str)
  | [] => some []
  | ⟨some n, _, _⟩ :: ks => (kwNames ks).map (n :: ·)
  | _ => none
def findPat (n : Nat) (ks : List PySem.Str) : List KwPat → Option KwPat
  | [] => none
  | p :: ps => if p.n = n ∧ p.ks = ks then some p else findPat n ks ps
/-- a call of a plain name -/
def denCall (isi : List A → Option A) (d : Den) (L : Lx) (x : PySem.Str) (args : List Expr) (kws : List Keyword) : Ex := match L.gv x with
  | some (.fn i np ds pats) => match kws with
    | [] => if args.all (fun e => !isStar e) && decide (args.length ≤ np) && decide (np - args.length ≤ ds.length) then eCall i (esDef (denA d L args) (ds.drop (ds.length - (np - args.length)))) else eBad
    | k :: ks => match kwNames (k :: ks) with
      | some ns => match findPat args.length ns pats with
        | some p => if args.all (fun e => !isStar e) then eCallK i p.perm (denA d L args) (denK d L (k :: ks)) else eBad
        | none => eBad
      | none => eBad
  | some .blt => match kws with
    | [] => match args with
      | [] => eBad
      | [e] => if isStar e then eBad else match (if x = "sorted" then (match e with
          | .Call (.Name y _) [e2] [] _ => if y = "set" ∧ isStar e2 = false then (match L.gv y with
            | some .blt => some (eOp1 fSortSet (d.E L e2))
            | _ => none) else none
          | _ => none) else none) with
        | some r => r
        | none => match bltF isi x with
          | some (.fn _ f) => eFn f (denA d L [e])
          | some (.ty _ f) => eFn f (denA d L [e])
          | none => eBad
      | [a, b] => if isStar a || isStar b then eBad else if x = "sum" then eSumL (d.E L a) (d.E L b) else match bltF isi x with
        | some (.fn _ f) => eFn f (denA d L [a, b])
        | some (.ty _ f) => eFn f (denA d L [a, b])
        | none => eBad
      | e :: es => if (e :: es).all (fun e => !isStar e) then (match bltF isi x with
        | some (.fn _ f) => eFn f (denA d L (e :: es))
        | some (.ty _ f) => eFn f (denA d L (e :: es))
        | none => eBad) else eBad
    | [k] => match args with
      | [e] => if x = "sorted" ∧ k.arg = some "key" ∧ isStar e = false then (match k.value with
        | .Name f _ => match L.gv f with
          | some (.fn i np _ _) => if np = 1 then eSortK i (d.E L e) else eBad
          | _ => eBad
        | _ => eBad) else eBad
      | _ => eBad
    | _ => eBad
  | _ => eBad
/-- a list comprehension -/
def denLc (d : Den) (L : Lx) (elt : Expr) (gens : List Comprehension) (sc : Scope) : Ex := match gens with
  | [⟨tg, iter, ifs, 0⟩] => if L.blkC sc && noFold iter then (match d.G (L.blk sc) tg with
    | some g => if g.slots.all (fun i => ((L.blkOwn sc).map (·.2)).contains i) then eLc (d.I L tg iter) g ((L.blkOwn sc).map (·.2)) (match ifs with
      | [] => tYes
      | [c] => d.T (L.blk sc) c
      | _ => tBad) (d.E (L.blk sc) elt) else eBad
    | none => eBad) else eBad
  | [⟨tg, iter, ifs, 0⟩, ⟨tg1, iter1, ifs1, 0⟩] => if L.blkC sc && noFold iter && noFold iter1 then (match d.G (L.blk sc) tg, d.G (L.blk sc) tg1 with
    | some g, some g1 => if g.slots.all (fun i => ((L.blkOwn sc).map (·.2)).contains i) && g1.slots.all (fun i => ((L.blkOwn sc).map (·.2)).contains i) then eLc2 (d.I L tg iter) g ((L.blkOwn sc).map (·.2)) (match ifs with
      | [] => tYes
      | [c] => d.T (L.blk sc) c
      | _ => tBad) (d.I (L.blk sc) tg1 iter1) g1 g1.slots (match ifs1 with
      | [] => tYes
      | [c] => d.T (L.blk sc) c
      | _ => tBad) (d.E (L.blk sc) elt) else eBad
    | _, _ => eBad) else eBad
  | _ => eBad
/-- a dict comprehension -/
def denDc (d : Den) (L : Lx) (kx vx : Expr) (gens : List Comprehension) (sc : Scope) : Ex := match gens with
  | [⟨tg, iter, ifs, 0⟩] => if L.blkC sc && noFold iter then (match d.G (L.blk sc) tg with
    | some g => if g.slots.all (fun i => ((L.blkOwn sc).map (·.2)).contains i) then eDc (d.I L tg iter) g ((L.blkOwn sc).map (·.2)) (match ifs with
      | [] => tYes
      | [c] => d.T (L.blk sc) c
      | _ => tBad) (d.E (L.blk sc) kx) (d.E (L.blk sc) vx) else eBad
    | none => eBad) else eBad
  | _ => eBad
def isTupT : Expr → Bool
  | .Tuple .. => true
  | _ => false
/-- what is walked -/
def denI (d : Den) (L : Lx) (tg : Expr) (e : Expr) : It := match e with
  | .Call (.Name x _) args [] _ => match L.gv x with
    | some .blt => match args with
      | [a] => if isStar a then itBad else if x = "range" then itRng1 (d.E L a) else if x = "enumerate" ∧ isTupT tg = true then itEnum (d.E L a) else itSeq (d.E L e)
      | [a, b] => if isStar a || isStar b then itBad else if x = "range" then itRng2 (d.E L a) (d.E L b) else if x = "zip" ∧ isTupT tg = true then itZip2 (d.E L a) (d.E L b) else itSeq (d.E L e)
      | [a, b, c] => if isStar a || isStar b || isStar c then itBad else if x = "zip" ∧ isTupT tg = true then itZip3 (d.E L a) (d.E L b) (d.E L c) else itSeq (d.E L e)
      | _ => itSeq (d.E L e)
    | _ => itSeq (d.E L e)
  | .Call (.Attribute o nm apos) [] [] cpos => if nm = "items" ∧ isTupT tg = true ∧ plainIx o = true ∧ (apos.endLine == cpos.line) = true then (match o with
      | .Name .. => itItems (d.E L o)
      | _ => itBad) else itSeq (d.E L e)
  | _ => itSeq (d.E L e)
def stepE (isi : List A → Option A) (d : Den) (L : Lx) (e : Expr) : Ex := match e with
  | .Constant k _ _ => match cA k with
    | some a => eCon a
    | none => eBad
  | .Name x _ => match L.slot x with
    | some i => eVar i
    | none => match L.gv x with
      | some (.con a) => eCon a
      | some .blt => match tyIx x with
        | some n => eCon (.ty n)
        | none => eBad
      | _ => eBad
  | .BinOp a op b _ => match binF op with
    | some f => eOp2 f (d.E L a) (d.E L b)
    | none => eBad
  | .UnaryOp op a _ => match op with
    | .USub => eOp1 fNeg (d.E L a)
    | .Not => eNot (d.E L a)
    | _ => eBad
  | .Compare a ops bs _ => match ops, bs with
    | [op], [b] => if behindInMarks op b then eBad else eOp2 (cmpF op) (d.E L a) (d.E L b)
    | [op, op'], [b, c] => if lastMarks [op, op'] [b, c] then eBad else eTest (tChain (cmpF op) (cmpF op') (d.E L a) (d.E L b) (d.E L c))
    | _, _ => eBad
  | .BoolOp op es p => match op, es with
    | _, [a] => d.E L a
    | .And, a :: b :: rest => eAnd (d.E L a) (d.E L (.BoolOp .And (b :: rest) p))
    | .Or, a :: b :: rest => eOr (d.E L a) (d.E L (.BoolOp .Or (b :: rest) p))
    | _, _ => eBad
  | .IfExp t a b _ => eIf (d.T L t) (d.E L a) (d.E L b)
  | .Tuple es _ _ => eTup (denA d L es)
  | .List es _ => eLst (denA d L es)
  | .ListComp elt gens sc _ => denLc d L elt gens sc
  | .DictComp kx vx gens sc _ => denDc d L kx vx gens sc
  | .Subscript a ix _ => match ix with
    | .Slice lo hi none _ => eSl (d.E L a) (optE d L lo) (optE d L hi)
    | .Slice none none (some (.UnaryOp .USub (.Constant (.int 1) _ _) _)) _ => eOp1 fRev (d.E L a)
    | _ => if plainIx ix then eOp2 fIx (d.E L a) (d.E L ix) else eBad
  | .Call f args kws cpos => match f with
    | .Name x _ => denCall isi d L x args kws
    | .Attribute o nm apos => match o, kws with
      | .Name .., [] => if (apos.endLine == cpos.line) = true ∧ args.all (fun e => !isStar e) = true ∧ args.length < 29 then (match args with
          | [] => if nm = "pop" then eMut mPop (d.E L o) esNil else eBad
          | e :: es => if nm = "append" then eMut mAppend (d.E L o) (denA d L (e :: es)) else eBad) else eBad
      | _, _ => eBad
    | _ => eBad
  | _ => eBad
/-- a list just made -/
def stepF (d : Den) (L : Lx) (e : Expr) : Ex := match e with
  | .List es _ => eLst (denA d L es)
  | .ListComp elt gens sc _ => denLc d L elt gens sc
  | _ => eBad
def stepT (d : Den) (L : Lx) (e : Expr) : Te := match e with
  | .Compare a ops bs _ => match ops, bs with
    | [op], [b] => if behindInMarks op b then tBad else tEx (eOp2 (cmpF op) (d.E L a) (d.E L b))
    | [op, op'], [b, c] => if lastMarks [op, op'] [b, c] then tBad else tChain (cmpF op) (cmpF op') (d.E L a) (d.E L b) (d.E L c)
    | _, _ => tBad
  | .UnaryOp op a _ => match op with
    | .Not => tNot (d.T L a)
    | _ => if plainTest e then tEx (d.E L e) else tBad
  | .BoolOp .. => d.W L e
  | _ => if plainTest e then tEx (d.E L e) else tBad
def stepW (d : Den) (L : Lx) (e : Expr) : Te := match e with
  | .BoolOp op es p => match op, es with
    | _, [a] => d.T L a
    | .And, a :: b :: rest => tAnd (d.T L a) (d.W L (.BoolOp .And (b :: rest) p))
    | .Or, a :: b :: rest => tOr (d.T L a) (d.W L (.BoolOp .Or (b :: rest) p))
    | _, _ => tBad
  | _ => tBad
def denG (d : Den) (L : Lx) : List Expr → Option (List Tg)
  | [] => some []
  | e :: es => if isStar e then none else match d.G L e, denG d L es with
    | some g, some gs => some (g :: gs)
    | _, _ => none
def stepG (d : Den) (L : Lx) (e : Expr) : Option Tg := match e with
  | .Name x _ => (L.own x).map .slot
  | .Tuple es _ _ => (denG d L es).map .tup
  | _ => none
/-- does the comprehension's own frame take the store in -/
def swapB (L : Lx) (x : PySem.Str) (p : Pos) (sc : Scope) (vp : Pos) : Bool := decide (L.names.lookup x = some .local) && (p.line == vp.line) && !(sc.names.any fun (n, k) => n == x && (k == .local || k == .cell))
def stepS (d : Den) (L : Lx) (t : Stmt) : Stm := match t with
  | .Pass _ => sPass
  | .Break _ => sBreak
  | .Continue _ => sCont
  | .Expr e _ => if isComp e then sBad else sEx (d.E L e)
  | .Return none _ => sRetN
  | .Return (some e) _ => if L.chgRet then sRet (eNew (d.F L e)) else sRet (d.E L e)
  | .If c a b _ => sIf (d.T L c) (d.B L a) (d.B L b)
  | .For tg iter body [] _ => if L.top && noFold iter then (match d.G L tg with
    | some g => sFor (d.I L tg iter) g (d.B L body)
    | none => sBad) else sBad
  | .While c body [] _ => if L.top then sWhile Sz (d.T L c) (d.B L body) else sBad
  | .Assign [tg] e pos => match tg with
    | .Name x p => match L.own x with
      | none => sBad
      | some i => match e with
        | .ListComp elt gens sc vp => if L.top then (if L.chg.contains x then sSet i (eNew (denLc d L elt gens sc)) else sSet i (denLc d L elt gens sc)) else sBad
        | _ => if isComp e then sBad else if L.chg.contains x then sSet i (eNew (d.F L e)) else sSet i (d.E L e)
    | .Tuple ts _ _ => match e with
      | .Tuple vs _ _ => match ts, vs with
        | [.Name x px, .Name y py], [a, b] => match L.own x, L.own y with
          | some i, some j => if L.top ∧ x ≠ y ∧ L.names.lookup x = some .local ∧ L.names.lookup y = some .local ∧ px.line = py.line ∧ isStar a = false ∧ isStar b = false ∧ [a, b].all (foldedForSure 8) = false ∧ [a, b].all (constantsAlone 8) = false then
              sPar i j (if L.chg.contains x then eNew (d.F L a) else d.E L a) (if L.chg.contains y then eNew (d.F L b) else d.E L b)
            else if (L.names.lookup x = some .cell ∨ L.names.lookup y = some .cell) ∧ isStar a = false ∧ isStar b = false then
              sPar i j (if L.chg.contains x then eNew (d.F L a) else d.E L a) (if L.chg.contains y then eNew (d.F L b) else d.E L b) else sBad
          | _, _ => sBad
        | _, _ => sBad
      | _ => if isComp e then sBad else match d.G L tg with
        | some (.tup gs) => sAsg (.tup gs) (d.E L e)
        | _ => sBad
    | .Subscript o i _ => if isComp e || isTupX e || !plainIx i then sBad else sSub (d.E L o) (d.E L i) (d.E L e)
    | _ => sBad
  | _ => sBad
/-- n = zip(a, b); return f([.. over n]) -/
def zipR (isi : List A → Option A) (d : Den) (L : Lx) (s1 s2 : Stmt) : Option Stm := match s1, s2 with
  | .Assign [.Name n _] (.Call (.Name z _) [a, b] [] _) _, .Return (some (.Call (.Name f _) [.ListComp elt [⟨.Tuple elts kk tp, .Name n' _, ifs, 0⟩] sc _] [] _)) _ =>
    if z = "zip" ∧ n = n' ∧ isStar a = false ∧ isStar b = false ∧ L.chgRet = false then (match L.own n, L.slot n, L.gv z, L.gv f, bltF isi f, d.G (L.blk sc) (.Tuple elts kk tp) with
      | some i, some _, some .blt, some .blt, some bf, some g => if L.blkC sc && g.slots.all (fun i => ((L.blkOwn sc).map (·.2)).contains i) then some (sZipR i (itZip2 (d.E L a) (d.E L b)) g ((L.blkOwn sc).map (·.2)) (match ifs with
          | [] => tYes
          | [c] => d.T (L.blk sc) c
          | _ => tBad) (d.E (L.blk sc) elt) bf.f) else none
      | _, _, _, _, _, _ => none) else none
  | _, _ => none
def stepB (isi : List A → Option A) (d : Den) (L : Lx) (l : List Stmt) : Stm := match l with
  | [] => sNil
  | [a, b] => (match zipR isi d L a b with
    | some m => m
    | none => sSeq (d.S L a) (d.B L [b]))
  | a :: rest => sSeq (d.S L a) (d.B L rest)
def stepD (isi : List A → Option A) (d : Den) : Den := ⟨stepE isi d, stepT d, stepW d, stepS d, stepB isi d, stepG d, denI d, stepF d⟩
/-- what syntax means, as deep as n -/
def den (isi : List A → Option A) : Nat → Den
  | 0 => den0
  | n + 1 => stepD isi (den isi n)
/-- all parts are sound -/
structure DenOk (N : Nm) (O : Orc) (lv : Nat) (d : Den) : Prop where
  E : ∀ {L X}, Ok N O lv L X → ∀ e, SndE N O X e (d.E L e)
  T : ∀ {L X}, Ok N O lv L X → ∀ e, SndT N O X e (d.T L e)
  W : ∀ {L X}, Ok N O lv L X → ∀ e, SndW N O X e (d.W L e)
  S : ∀ {L X}, Ok N O lv L X → ∀ t, SndS N O X t (d.S L t)
  B : ∀ {L X}, Ok N O lv L X → ∀ l, SndSs N O X l (d.B L l)
  G : ∀ {L X}, Ok N O lv L X → ∀ e g, d.G L e = some g → SndG N X e g
  I : ∀ {L X}, Ok N O lv L X → ∀ tg e, SndI N O X tg e (d.I L tg e)
  F : ∀ {L X}, Ok N O lv L X → ∀ e, SndF N O X e (d.F L e)
end PV
end
section
set_option linter.all false
set_option Elab.async false
set_option maxRecDepth 100000
set_option maxHeartbeats 4000000
/-! PV26: den is sound. -/
namespace PV
open PySem PySem.Spec PyProof.Rows L2
section
variable {N : Nm} {O : Orc} {lv : Nat} {L : Lx} {X : Cx} {d : Den}
theorem snd_tbad {e : Expr} : SndT N O X e tBad := fun Y tk env st σ Z c H R E Q h => h.elim
theorem snd_wbad {e : Expr} : SndW N O X e tBad := fun Y tk env st σ Z c H R E Q h => h.elim
theorem sndi_bad {tg e : Expr} : SndI N O X tg e itBad := fun Y tk env st σ Z c H R E Q h => h.elim
theorem sndf_bad {e : Expr} : SndF N O X e eBad := fun Y tk env st σ Z c H R E Q h => h.elim
theorem sndss_bad {l : List Stmt} : SndSs N O X l sBad := fun Y tk env st σ Z c H R E D h => h.elim
theorem sndts_bad {l : List Expr} : SndTs N O X l tBad := fun Y tk env st σ Z c H R E Q h => h.elim
theorem den0_ok : DenOk N O lv den0 := ⟨fun _ _ => snd_ebad, fun _ _ => snd_tbad, fun _ _ => snd_wbad, fun _ _ => snd_sbad, fun _ _ => sndss_bad, (fun _ _ _ h => nomatch h), fun _ _ _ => sndi_bad, fun _ _ => sndf_bad⟩
theorem denA_ok (D : DenOk N O lv d) (K : Ok N O lv L X) : ∀ es : List Expr, SndA N O X es (denA d L es)
  | [] => snd_anil
  | e :: es => by
    have ih := denA_ok D K es
    cases e <;> first | exact snd_acons rfl (D.E K _) ih | exact snd_astar K.fit (D.E K _) ih
theorem denK_ok (D : DenOk N O lv d) (K : Ok N O lv L X) : ∀ ks : List Keyword, SndK N O X ks (denK d L ks)
  | [] => sndk_nil
  | ⟨nm, e, p⟩ :: ks => sndk_cons (D.E K e) (denK_ok D K ks)
theorem optE_ok (D : DenOk N O lv d) (K : Ok N O lv L X) : ∀ o : Option Expr, SndO N O X o (optE d L o)
  | none => trivial
  | some e => D.E K e
theorem binF_ok (F : Fit N X) {op : Operator} {f : A → A → Option A} (h : binF op = some f) : Val2 N X (binaryOp op) f := by
  cases op <;> cases h
  · exact v_add F
  · exact v_sub F
  · exact v_mul F
  · exact v_mod F
  · exact v_pow F
  · exact v_div F
theorem cmpF_ok (F : Fit N X) (op : CmpOp) : Val2 N X (compareOp op) (cmpF op) := by
  cases op
  · exact v_eq F
  · exact v_ne F
  · exact v_lt F
  · exact v_le F
  · exact v_gt F
  · exact v_ge F
  · exact v_is F
  · exact v_isn F
  · exact v_in F
  · exact v_nin F
theorem cmpF_bool (op : CmpOp) : ∀ u v r, cmpF op u v = some r → ∃ k, r = .bl k := by
  intro u v r h
  have ite : ∀ {c : Bool} {b : Bool}, (if c then some (A.bl b) else none) = some r → ∃ k, r = .bl k := fun {c b} h => by
    cases c
    · cases h
    · cases h; exact ⟨_, rfl⟩
  have mp : ∀ {o : Option Bool} {f : Bool → Bool}, (o.map fun k => A.bl (f k)) = some r → ∃ k, r = .bl k := fun {o f} h => by
    cases o
    · cases h
    · cases h; exact ⟨_, rfl⟩
  cases op
  · exact ite h
  · exact ite h
  · exact ite h
  · exact ite h
  · exact ite h
  · exact ite h
  · exact mp (f := id) h
  · exact mp h
  · exact mp (f := id) h
  · exact mp h
theorem stepW_ok (D : DenOk N O lv d) (K : Ok N O lv L X) (e : Expr) : SndW N O X e (stepW d L e) := by
  unfold stepW
  split
  · rename_i op es p
    split
    · rename_i a
      cases op
      · exact snd_wand1 (D.T K a)
      · exact snd_wor1 (D.T K a)
    · exact snd_wand (D.T K _) (D.W K _)
    · exact snd_wor (D.T K _) (D.W K _)
    · exact snd_wbad
  · exact snd_wbad
theorem stepT_ok (D : DenOk N O lv d) (K : Ok N O lv L X) (e : Expr) : SndT N O X e (stepT d L e) := by
  unfold stepT
  split
  · split
    · split
      · exact snd_tbad
      · rename_i hm
        exact snd_tcmp K.fit (cmpF_ok K.fit _) (cmpF_bool _) (by simpa using hm) (D.E K _) (D.E K _)
    · split
      · exact snd_tbad
      · rename_i hm
        exact snd_tchain K.fit (cmpF_ok K.fit _) (cmpF_ok K.fit _) (by simpa using hm) (D.E K _) (D.E K _) (D.E K _)
    · exact snd_tbad
  · split
    · exact snd_tnot (D.T K _)
    · split
      · rename_i hp
        exact snd_test K.fit hp (D.E K _)
      · exact snd_tbad
  · exact (D.W K _).t
  · split
    · rename_i hp
      exact snd_test K.fit hp (D.E K _)
    · exact snd_tbad
theorem ifs_ok (D : DenOk N O lv d) {sc : Scope} (K : Ok N O lv L X) (ifs : List Expr) : inB X sc fun X => SndTs N O X ifs (match ifs with
      | [] => PV.tYes
      | [c] => d.T (L.blk sc) c
      | _ => tBad) := by
  intro s0 H0 C cl fp
  have K' := K.blk (sc := sc) s0 H0 C cl fp
  split
  · exact sndts_nil
  · exact sndts_one (D.T K' _)
  · exact sndts_bad
theorem slots_in {g : Tg} {own : List Nat} (h : (g.slots.all fun i => own.contains i) = true) : ∀ i ∈ g.slots, i ∈ own := fun i hi => by
  simpa using List.all_eq_true.mp h i hi
theorem denLc_ok (D : DenOk N O lv d) (K : Ok N O lv L X) (elt : Expr) (gens : List Comprehension) (sc : Scope) (pos : Pos) : SndF N O X (.ListComp elt gens sc pos) (denLc d L elt gens sc) := by
  unfold denLc
  split
  · rename_i tg iter ifs
    split
    · rename_i hc
      simp only [Bool.and_eq_true] at hc
      split
      · rename_i g hg
        split
        · rename_i hs
          exact sndf_lc K.fit hc.2 (K.blkOk hc.1) (slots_in hs) (D.I K tg iter) (fun s0 H0 C cl fp => D.G (K.blk s0 H0 C cl fp) tg g hg) (ifs_ok D K ifs) (fun s0 H0 C cl fp => D.E (K.blk s0 H0 C cl fp) elt)
        · exact sndf_bad
      · exact sndf_bad
    · exact sndf_bad
  · rename_i tg iter ifs tg1 iter1 ifs1
    split
    · rename_i hc
      simp only [Bool.and_eq_true] at hc
      split
      · rename_i g g1 hg hg1
        split
        · rename_i hs
          simp only [Bool.and_eq_true] at hs
          exact sndf_lc2 K.fit hc.1.2 hc.2 (K.blkOk hc.1.1) (slots_in hs.2) (slots_in hs.1) (fun i hi => hi) (D.I K tg iter) (fun s0 H0 C cl fp => D.G (K.blk s0 H0 C cl fp) tg g hg) (ifs_ok D K ifs) (fun s0 H0 C cl fp => D.I (K.blk s0 H0 C cl fp) tg1 iter1) (fun s0 H0 C cl fp => D.G (K.blk s0 H0 C cl fp) tg1 g1 hg1) (ifs_ok D K ifs1) (fun s0 H0 C cl fp => D.E (K.blk s0 H0 C cl fp) elt)
        · exact sndf_bad
      · exact sndf_bad
    · exact sndf_bad
  · exact sndf_bad
theorem denDc_ok (D : DenOk N O lv d) (K : Ok N O lv L X) (kx vx : Expr) (gens : List Comprehension) (sc : Scope) (pos : Pos) : SndE N O X (.DictComp kx vx gens sc pos) (denDc d L kx vx gens sc) := by
  unfold denDc
  split
  · rename_i tg iter ifs
    split
    · rename_i hc
      simp only [Bool.and_eq_true] at hc
      split
      · rename_i g hg
        split
        · rename_i hs
          exact SndD.e (fun env st w st1 h => dc_dct env st w st1 h) (sndd_dc K.fit hc.2 (K.blkOk hc.1) (slots_in hs) (D.I K tg iter) (fun s0 H0 C cl fp => D.G (K.blk s0 H0 C cl fp) tg g hg) (ifs_ok D K ifs) (fun s0 H0 C cl fp => D.E (K.blk s0 H0 C cl fp) kx) (fun s0 H0 C cl fp => D.E (K.blk s0 H0 C cl fp) vx))
        · exact snd_ebad
      · exact snd_ebad
    · exact snd_ebad
  · exact snd_ebad
/-- only lists come out -/
def IsLst (x : Ex) : Prop := ∀ (O : Orc) (env : Env) (st : Sto) (w : PV.W) (st1 : Sto), x O env st = .ok w st1 → ∃ l, w = .v (.lst l)
theorem isLst_bad : IsLst eBad := fun O env st w st1 h => nomatch h
theorem denLc_lst (elt : Expr) (gens : List Comprehension) (sc : Scope) : IsLst (denLc d L elt gens sc) := by
  unfold denLc
  split
  · split
    · split
      · split
        · exact fun O env st w st1 h => lc_lst env st w st1 h
        · exact isLst_bad
      · exact isLst_bad
    · exact isLst_bad
  · split
    · split
      · split
        · exact fun O env st w st1 h => lc2_lst env st w st1 h
        · exact isLst_bad
      · exact isLst_bad
    · exact isLst_bad
  · exact isLst_bad
theorem stepF_ok (D : DenOk N O lv d) (K : Ok N O lv L X) (e : Expr) : SndF N O X e (stepF d L e) := by
  unfold stepF
  split
  · exact sndf_lst (denA_ok D K _)
  · exact denLc_ok D K _ _ _ _
  · exact sndf_bad
theorem denG_ok (D : DenOk N O lv d) (K : Ok N O lv L X) : ∀ (es : List Expr) (gs : List Tg), denG d L es = some gs → SndGs N X es gs ∧ (es.all fun e => !isStar e) = true ∧ es.length = gs.length
  | [], gs, h => by cases h; exact ⟨sndg_nil, rfl, rfl⟩
  | e :: es, gs, h => by
    unfold denG at h
    split at h
    · cases h
    · rename_i hs
      split at h
      · rename_i g gs' h1 h2
        cases h
        obtain ⟨q1, q2, q3⟩ := denG_ok D K es gs' h2
        have hs' : isStar e = false := by simpa using hs
        exact ⟨sndg_cons hs' (D.G K e g h1) q1, by simp [hs', q2], by simp [q3]⟩
      · cases h
theorem stepG_ok (D : DenOk N O lv d) (K : Ok N O lv L X) (e : Expr) (g : Tg) (h : stepG d L e = some g) : SndG N X e g := by
  unfold stepG at h
  split at h
  · rename_i x p
    cases e2 : L.own x with
    | none => rw [e2] at h; cases h
    | some i => rw [e2] at h; cases h; exact sndg_name K.fit (K.own e2)
  · rename_i es k p
    cases e2 : denG d L es with
    | none => rw [e2] at h; cases h
    | some gs =>
      rw [e2] at h
      cases h
      obtain ⟨q1, q2, q3⟩ := denG_ok D K es gs e2
      exact sndg_tup K.fit q2 q3 q1
  · cases h
theorem blt_of {x : PySem.Str} (K : Ok N O lv L X) (h : L.gv x = some .blt) : Gl X x ∧ X.mg x = none := ⟨(K.gv h).1, (K.gv h).2.2⟩
theorem tup_of {tg : Expr} (h : isTupT tg = true) : ∃ elts kk tpos, tg = .Tuple elts kk tpos := by
  cases tg <;> first | exact ⟨_, _, _, rfl⟩ | cases h
theorem base_name {x : PySem.Str} {p : Pos} {nm : PySem.Str} {env : PySem.Env} {w : Sem Value} : attributeBase (.Name x p) nm env w = w := rfl
theorem denI_ok (D : DenOk N O lv d) (K : Ok N O lv L X) (tg e : Expr) : SndI N O X tg e (denI d L tg e) := by
  have seq : SndI N O X tg e (itSeq (d.E L e)) := sndi_seq K.fit (D.E K e)
  unfold denI
  split
  · rename_i x p args pos
    split
    · rename_i hgv
      obtain ⟨hg, hm⟩ := blt_of K hgv
      split
      · rename_i a
        split
        · exact sndi_bad
        · rename_i hs
          have hs : isStar a = false := by simpa using hs
          split
          · rename_i e1
            subst e1
            exact sndi_rng1 hg hm hs (D.E K a)
          · split
            · rename_i e2
              obtain ⟨rfl, ht⟩ := e2
              obtain ⟨elts, kk, tpos, rfl⟩ := tup_of ht
              exact sndi_enum K.fit hg hm hs (D.E K a)
            · exact seq
      · rename_i a b
        split
        · exact sndi_bad
        · rename_i hs
          simp only [Bool.or_eq_true, not_or, Bool.not_eq_true] at hs
          split
          · rename_i e1
            subst e1
            exact sndi_rng2 hg hm hs.1 hs.2 (D.E K a) (D.E K b)
          · split
            · rename_i e2
              obtain ⟨rfl, ht⟩ := e2
              obtain ⟨elts, kk, tpos, rfl⟩ := tup_of ht
              exact sndi_zip2 K.fit hg hm hs.1 hs.2 (D.E K a) (D.E K b)
            · exact seq
      · rename_i a b c
        split
        · exact sndi_bad
        · rename_i hs
          simp only [Bool.or_eq_true, not_or, Bool.not_eq_true] at hs
          split
          · rename_i e2
            obtain ⟨rfl, ht⟩ := e2
            obtain ⟨elts, kk, tpos, rfl⟩ := tup_of ht
            exact sndi_zip3 K.fit hg hm hs.1.1 hs.1.2 hs.2 (D.E K a) (D.E K b) (D.E K c)
          · exact seq
      · exact seq
    · exact seq
  · rename_i o nm apos cpos
    split
    · rename_i hc
      obtain ⟨rfl, ht, hp, hl⟩ := hc
      obtain ⟨elts, kk, tpos, rfl⟩ := tup_of ht
      split
      · exact sndi_items K.fit base_name hl (D.E K _)
      · exact sndi_bad
    · exact seq
  · exact seq
/-- what a name of a built-in means -/
def BfOk (N : Nm) (X : Cx) (x : PySem.Str) : Bf → Prop
  | .fn id f => CallV N X (.builtin id) f ∧ bootBuiltins x = some (.builtin id) ∧ x ≠ "__name__" ∧ (x == ("__debug__" : PySem.Str)) = false
  | .ty id f => CallV N X (.type id) f ∧ bootBuiltins x = some (.type id) ∧ x ≠ "__name__" ∧ (x == ("__debug__" : PySem.Str)) = false
theorem bltF_ok {isi : List A → Option A} (F : Fit N X) (hi : CallV N X (.builtin "isinstance") isi) {x : PySem.Str} {b : Bf} (h : bltF isi x = some b) : BfOk N X x b := by
  have go : ∀ {c : Prop} [Decidable c] {r : Option Bf} {b1 : Bf}, (if c then some b1 else r) = some b → (c → BfOk N X x b1) → (r = some b → BfOk N X x b) → BfOk N X x b := by
    intro c _ r b1 h h1 h2
    split at h
    · rename_i hc; cases h; exact h1 hc
    · exact h2 h
  unfold bltF at h
  refine go h (fun e => by subst e; exact ⟨b_len F, by decide +kernel, by decide, by decide⟩) fun h => ?_
  refine go h (fun e => by subst e; exact ⟨b_abs F, by decide +kernel, by decide, by decide⟩) fun h => ?_
  refine go h (fun e => by subst e; exact ⟨b_max F, by decide +kernel, by decide, by decide⟩) fun h => ?_
  refine go h (fun e => by subst e; exact ⟨b_min F, by decide +kernel, by decide, by decide⟩) fun h => ?_
  refine go h (fun e => by subst e; exact ⟨b_all F, by decide +kernel, by decide, by decide⟩) fun h => ?_
  refine go h (fun e => by subst e; exact ⟨b_any F, by decide +kernel, by decide, by decide⟩) fun h => ?_
  refine go h (fun e => by subst e; exact ⟨b_sum F, by decide +kernel, by decide, by decide⟩) fun h => ?_
  refine go h (fun e => by subst e; exact ⟨b_sortedC F, by decide +kernel, by decide, by decide⟩) fun h => ?_
  refine go h (fun e => by subst e; exact ⟨hi, by decide +kernel, by decide, by decide⟩) fun h => ?_
  refine go h (fun e => by subst e; exact ⟨b_int F, by decide +kernel, by decide, by decide⟩) fun h => ?_
  refine go h (fun e => by subst e; exact ⟨b_bool F, by decide +kernel, by decide, by decide⟩) fun h => ?_
  refine go h (fun e => by subst e; exact ⟨b_str F, by decide +kernel, by decide, by decide⟩) fun h => ?_
  refine go h (fun e => by subst e; exact ⟨b_tuple F, by decide +kernel, by decide, by decide⟩) fun h => ?_
  refine go h (fun e => by subst e; exact ⟨b_list' F, by decide +kernel, by decide, by decide⟩) fun h => ?_
  refine go h (fun e => by subst e; exact ⟨b_dict F, by decide +kernel, by decide, by decide⟩) fun h => nomatch h
theorem snd_bf {x : PySem.Str} {b : Bf} (hb : BfOk N X x b) (hg : Gl X x) (hm : X.mg x = none) {e : Expr} {es : List Expr} {xs : Es} {p pos : Pos} (hst : (e :: es).all (fun e => !isStar e) = true) (ha : SndA N O X (e :: es) xs) : SndE N O X (.Call (.Name x p) (e :: es) [] pos) (match b with
    | .fn _ f => eFn f xs
    | .ty _ f => eFn f xs) := by
  cases b with
  | fn id f => exact snd_fnB hb.1 hg hm hb.2.1 hb.2.2.1 hb.2.2.2 hst ha
  | ty id f => exact snd_fnT hb.1 hg hm hb.2.1 hb.2.2.1 hb.2.2.2 hst ha
theorem denA_len (d : Den) (L : Lx) : ∀ (es : List Expr), (es.all fun e => !isStar e) = true → ∀ (O : Orc) (env : Env) (st : Sto) (l : List PV.W) (st1 : Sto), denA d L es O env st = .ok l st1 → l.length = es.length
  | [], _, O, env, st, l, st1, h => by cases h; rfl
  | e :: es, hs, O, env, st, l, st1, h => by
    simp only [List.all_cons, Bool.and_eq_true] at hs
    have ih := denA_len d L es hs.2
    have h : esCons (d.E L e) (denA d L es) O env st = .ok l st1 := by
      cases e <;> first | exact h | (have := hs.1; cases this)
    unfold esCons at h
    cases e1 : d.E L e O env st with
    | ok a st2 =>
      rw [e1] at h
      simp only [bind_ok] at h
      cases e2 : denA d L es O env st2 with
      | ok m st3 => rw [e2] at h; cases h; simp [ih _ _ _ _ _ e2]
      | exc _ _ _ => rw [e2] at h; cases h
      | bad => rw [e2] at h; cases h
    | exc _ _ _ => rw [e1] at h; cases h
    | bad => rw [e1] at h; cases h
theorem denK_len (d : Den) (L : Lx) : ∀ (ks : List Keyword) (O : Orc) (env : Env) (st : Sto) (l : List PV.W) (st1 : Sto), denK d L ks O env st = .ok l st1 → l.length = ks.length
  | [], O, env, st, l, st1, h => by cases h; rfl
  | k :: ks, O, env, st, l, st1, h => by
    have ih := denK_len d L ks
    have h : esCons (d.E L k.value) (denK d L ks) O env st = .ok l st1 := h
    unfold esCons at h
    cases e1 : d.E L k.value O env st with
    | ok a st2 =>
      rw [e1] at h
      simp only [bind_ok] at h
      cases e2 : denK d L ks O env st2 with
      | ok m st3 => rw [e2] at h; cases h; simp [ih _ _ _ _ _ e2]
      | exc _ _ _ => rw [e2] at h; cases h
      | bad => rw [e2] at h; cases h
    | exc _ _ _ => rw [e1] at h; cases h
    | bad => rw [e1] at h; cases h
theorem kw_ok (pos : Pos) (env : PySem.Env) : ∀ {ks : List Keyword} {ns : List PySem.Str}, kwNames ks = some ns →
    (backToKw pos (keywordEach ks env)).all (·.1.isSome) = true ∧ (backToKw pos (keywordEach ks env)).any (·.1.isNone) = false ∧ (backToKw pos (keywordEach ks env)).filterMap (·.1) = ns ∧ ns.length = ks.length
  | [], _, h => by cases h; exact ⟨rfl, rfl, rfl, rfl⟩
  | ⟨nm, v, p⟩ :: ks, ns, h => by
    cases nm with
    | none => cases h
    | some n =>
      unfold kwNames at h
      cases e : kwNames ks with
      | none => rw [e] at h; cases h
      | some ms =>
        rw [e] at h
        cases h
        obtain ⟨h1, h2, h3, h4⟩ := kw_ok pos env e
        refine ⟨?_, ?_, ?_, by simp [h4]⟩
        · show (true && (backToKw pos (keywordEach ks env)).all (·.1.isSome)) = true
          rw [h1]; rfl
        · show (false || (backToKw pos (keywordEach ks env)).any (·.1.isNone)) = false
          rw [h2]; rfl
        · show n :: (backToKw pos (keywordEach ks env)).filterMap (·.1) = n :: ms
          rw [h3]
theorem findPat_ok {n : Nat} {ks : List PySem.Str} : ∀ {ps : List KwPat} {p : KwPat}, findPat n ks ps = some p → p ∈ ps ∧ p.n = n ∧ p.ks = ks
  | [], _, h => nomatch h
  | q :: ps, p, h => by
    unfold findPat at h
    split at h
    · rename_i hc; cases h; exact ⟨List.mem_cons_self, hc⟩
    · obtain ⟨h1, h2⟩ := findPat_ok h; exact ⟨List.mem_cons_of_mem _ h1, h2⟩
end
end PV
end
section
set_option linter.all false
set_option Elab.async false
set_option maxRecDepth 100000
set_option maxHeartbeats 4000000
/-! PV27: calls, expressions, statements in den. -/
namespace PV
open PySem PySem.Spec PyProof.Rows L2
section
variable {N : Nm} {O : Orc} {lv : Nat} {L : Lx} {X : Cx} {d : Den} {isi : List A → Option A}
theorem denCall_ok (D : DenOk N O lv d) (K : Ok N O lv L X) (hi : CallV N X (.builtin "isinstance") isi) (x : PySem.Str) (args : List Expr) (kws : List Keyword) (p pos : Pos) : SndE N O X (.Call (.Name x p) args kws pos) (denCall isi d L x args kws) := by
  unfold denCall
  split
  · rename_i i np ds pats hgv
    obtain ⟨hg, hd, hc, hk, _⟩ := K.gv hgv
    split
    · split
      · rename_i hcond
        simp only [Bool.and_eq_true, decide_eq_true_eq] at hcond
        obtain ⟨⟨h1, h2⟩, h3⟩ := hcond
        cases args with
        | nil => exact snd_call0 K.fit hc K.rm hg hd (by simpa using h3)
        | cons e es => exact snd_call K.fit hc K.rm hg hd h1 h2 h3 (fun env st l st1 h => denA_len d L _ h1 O env st l st1 h) (denA_ok D K _)
      · exact snd_ebad
    · rename_i k ks
      split
      · rename_i ns hns
        split
        · rename_i pt hpt
          obtain ⟨q1, q2, q3⟩ := findPat_ok hpt
          split
          · rename_i hst
            have C := hk pt q1
            rw [q2, q3] at C
            obtain ⟨r1, r2, r3, r4⟩ := kw_ok pos X.env hns
            cases args with
            | nil => exact snd_callK0 K.fit C K.rm hg hd (fun env st l st1 h => by rw [denK_len d L _ O env st l st1 h, r4]) r1 r2 r3 (denK_ok D K _)
            | cons e es => exact snd_callK K.fit C K.rm hg hd hst (fun env st l st1 h => denA_len d L _ hst O env st l st1 h) (fun env st l st1 h => by rw [denK_len d L _ O env st l st1 h, r4]) r1 r2 r3 (denA_ok D K _) (denK_ok D K _)
          · exact snd_ebad
        · exact snd_ebad
      · exact snd_ebad
  · rename_i hgv
    obtain ⟨hg, hm⟩ := blt_of K hgv
    split
    · split
      · exact snd_ebad
      · rename_i e
        split
        · exact snd_ebad
        · rename_i hs
          have hs : isStar e = false := by simpa using hs
          split
          · rename_i r hr
            split at hr
            · rename_i ex
              subst ex
              split at hr
              · rename_i y p2 e2 pos2
                split at hr
                · rename_i hc
                  obtain ⟨rfl, hs2⟩ := hc
                  split at hr
                  · rename_i hgv2
                    cases hr
                    obtain ⟨hg2, hm2⟩ := blt_of K hgv2
                    exact snd_sortset K.fit hg hm hg2 hm2 hs2 (D.E K _)
                  · cases hr
                · cases hr
              · cases hr
            · cases hr
          · have hst : [e].all (fun e => !isStar e) = true := by simp [hs]
            split
            · rename_i id f hb; exact snd_bf (bltF_ok K.fit hi hb) hg hm hst (denA_ok D K _)
            · rename_i id f hb; exact snd_bf (bltF_ok K.fit hi hb) hg hm hst (denA_ok D K _)
            · exact snd_ebad
      · rename_i a b
        split
        · exact snd_ebad
        · rename_i hs
          simp only [Bool.or_eq_true, not_or, Bool.not_eq_true] at hs
          split
          · rename_i ex
            subst ex
            exact snd_sumL K.fit hg hm hs.1 hs.2 (D.E K a) (D.E K b)
          · have hst : [a, b].all (fun e => !isStar e) = true := by simp [hs]
            split
            · rename_i id f hb; exact snd_bf (bltF_ok K.fit hi hb) hg hm hst (denA_ok D K _)
            · rename_i id f hb; exact snd_bf (bltF_ok K.fit hi hb) hg hm hst (denA_ok D K _)
            · exact snd_ebad
      · rename_i e es _ _
        split
        · rename_i hst
          split
          · rename_i id f hb; exact snd_bf (bltF_ok K.fit hi hb) hg hm hst (denA_ok D K _)
          · rename_i id f hb; exact snd_bf (bltF_ok K.fit hi hb) hg hm hst (denA_ok D K _)
          · exact snd_ebad
        · exact snd_ebad
    · rename_i k
      split
      · rename_i e
        split
        · rename_i hc
          obtain ⟨rfl, hk, hs⟩ := hc
          split
          · rename_i f fp hkv
            split
            · rename_i i np ds pats hgf
              split
              · rename_i hn
                obtain ⟨hg2, hd2, _, _, hkf⟩ := K.gv hgf
                obtain ⟨fa, hm2, KF⟩ := hkf hn
                obtain ⟨ka, kv, kp⟩ := k
                simp only at hk hkv
                subst hk hkv
                exact snd_sortK K.fit KF hg hm hg2 hm2 hd2 hs (D.E K e)
              · exact snd_ebad
            · exact snd_ebad
          · exact snd_ebad
        · exact snd_ebad
      · exact snd_ebad
    · exact snd_ebad
  · exact snd_ebad
theorem tyIx_ok (hty : N.tyn = tyS) {x : PySem.Str} {n : Nat} (h : tyIx x = some n) : bootBuiltins x = some (.type (N.tyn n)) ∧ x ≠ "__name__" ∧ (x == ("__debug__" : PySem.Str)) = false := by
  have go : ∀ {c : Prop} [Decidable c] {r : Option Nat} {m : Nat}, (if c then some m else r) = some n → (c → bootBuiltins x = some (.type (tyS m)) ∧ x ≠ "__name__" ∧ (x == ("__debug__" : PySem.Str)) = false) → (r = some n → bootBuiltins x = some (.type (tyS n)) ∧ x ≠ "__name__" ∧ (x == ("__debug__" : PySem.Str)) = false) → bootBuiltins x = some (.type (tyS n)) ∧ x ≠ "__name__" ∧ (x == ("__debug__" : PySem.Str)) = false := by
    intro c _ r m h h1 h2
    split at h
    · rename_i hc; cases h; exact h1 hc
    · exact h2 h
  rw [hty]
  unfold tyIx at h
  refine go h (fun e => by subst e; exact ⟨by decide +kernel, by decide, by decide⟩) fun h => ?_
  refine go h (fun e => by subst e; exact ⟨by decide +kernel, by decide, by decide⟩) fun h => ?_
  refine go h (fun e => by subst e; exact ⟨by decide +kernel, by decide, by decide⟩) fun h => ?_
  refine go h (fun e => by subst e; exact ⟨by decide +kernel, by decide, by decide⟩) fun h => ?_
  refine go h (fun e => by subst e; exact ⟨by decide +kernel, by decide, by decide⟩) fun h => ?_
  exact go h (fun e => by subst e; exact ⟨by decide +kernel, by decide, by decide⟩) fun h => nomatch h
theorem stepE_ok (D : DenOk N O lv d) (K : Ok N O lv L X) (hi : CallV N X (.builtin "isinstance") isi) (hty : N.tyn = tyS) (e : Expr) : SndE N O X e (stepE isi d L e) := by
  unfold stepE
  split
  · -- constants
    split
    · rename_i a h; exact snd_const h
    · exact snd_ebad
  · -- names
    rename_i x p
    split
    · rename_i i h
      obtain ⟨h1, h2, h3, h4⟩ := K.slot h
      exact snd_var h1 h2 h3 h4
    · split
      · rename_i a h
        obtain ⟨hg, hd, v, u, h1, h2, h3⟩ := K.gv h
        exact snd_glob hg h1 h2 h3 hd
      · rename_i h
        obtain ⟨hg, hm⟩ := blt_of K h
        split
        · rename_i n hn
          obtain ⟨h1, h2, h3⟩ := tyIx_ok hty hn
          exact snd_con (pe_bltn (v := .ty (N.tyn n)) hg hm h1 rfl h2 h3) fun Z => .ty n
        · exact snd_ebad
      · exact snd_ebad
  · split
    · rename_i f h
      exact snd_bin (binF_ok K.fit h) (D.E K _) (D.E K _)
    · exact snd_ebad
  · split
    · exact snd_un (v_neg K.fit) (D.E K _)
    · exact snd_not K.fit (D.E K _)
    · exact snd_ebad
  · split
    · split
      · exact snd_ebad
      · rename_i hm
        exact snd_cmp (cmpF_ok K.fit _) (by simpa using hm) (D.E K _) (D.E K _)
    · split
      · exact snd_ebad
      · rename_i hm
        exact snd_echain K.fit (cmpF_ok K.fit _) (cmpF_ok K.fit _) (by simpa using hm) (D.E K _) (D.E K _) (D.E K _)
    · exact snd_ebad
  · split
    · exact snd_one (D.E K _)
    · exact snd_and K.fit (D.E K _) (D.E K _)
    · exact snd_or K.fit (D.E K _) (D.E K _)
    · exact snd_ebad
  · exact snd_ifx (D.T K _) (D.E K _) (D.E K _)
  · exact snd_tup (denA_ok D K _)
  · exact snd_lst (denA_ok D K _)
  · exact SndF.e (fun env st w st1 h => denLc_lst _ _ _ O env st w st1 h) (denLc_ok D K _ _ _ _)
  · exact denDc_ok D K _ _ _ _ _
  · split
    · exact snd_sl K.fit (D.E K _) (optE_ok D K _) (optE_ok D K _)
    · exact snd_rev K.fit (D.E K _)
    · split
      · rename_i hp
        exact snd_ix (x_seq K.fit) hp (D.E K _) (D.E K _)
      · exact snd_ebad
  · split
    · exact denCall_ok D K hi _ _ _ _ _
    · split
      · split
        · rename_i hc
          obtain ⟨hl, hst, hlen⟩ := hc
          split
          · split
            · rename_i hn
              subst hn
              exact snd_mut0 K.fit PySem.F.slot_list_pop PySem.F.type_list_pop (m_pop K.fit) base_name hl (D.E K _)
            · exact snd_ebad
          · split
            · rename_i hn
              subst hn
              exact snd_mut K.fit PySem.F.slot_list_append PySem.F.type_list_append (m_append K.fit) base_name hl hst hlen (D.E K _) (denA_ok D K _)
            · exact snd_ebad
        · exact snd_ebad
      · exact snd_ebad
    · exact snd_ebad
  · exact snd_ebad
end
end PV
end
section
set_option linter.all false
set_option Elab.async false
set_option maxRecDepth 100000
set_option maxHeartbeats 4000000
/-! PV28: statements, blocks in den; den is sound. -/
namespace PV
open PySem PySem.Spec PyProof.Rows L2
section
variable {N : Nm} {O : Orc} {lv : Nat} {L : Lx} {X : Cx} {d : Den} {isi : List A → Option A}
/-- is the new list stored by the comprehension itself -/
def swp (X : Cx) (n : PySem.Str) (p : Pos) (sc : Scope) (vp : Pos) : Bool := X.env.blockKind == .function && X.env.kindOf n == some .local && p.line == vp.line && !(sc.names.any fun (m, k) => m == n && (k == .local || k == .cell))
theorem swaps_is (elt : Expr) (gens : List Comprehension) (sc : Scope) (vp p : Pos) (n : PySem.Str) (l : Nat) : swapsWith (.ListComp elt gens sc vp) (some (.Name n p)) l X.env = pure (swp X n p sc vp) := by
  unfold swapsWith swp
  rfl
theorem denLc_sf (D : DenOk N O lv d) (K : Ok N O lv L X) {i : Nat} {n : PySem.Str} (ho : L.own n = some i) (elt : Expr) (gens : List Comprehension) (sc : Scope) (p pos spos : Pos) :
    SndSF N O X i (.Assign [.Name n p] (.ListComp elt gens sc pos) spos) (denLc d L elt gens sc) := by
  have hsw := swaps_is (X := X) elt gens sc pos p n spos.line
  cases hb : swp X n p sc pos with
  | false =>
    rw [hb] at hsw
    exact sndsf_of K.fit (K.own ho) hsw (denLc_ok D K elt gens sc pos)
  | true =>
    rw [hb] at hsw
    have hl0 : X.env.scope.names.lookup n = some .local := by
      unfold swp at hb
      simp only [Bool.and_eq_true, beq_iff_eq] at hb
      exact hb.1.1.2
    have hi0 := (K.own ho).ix
    have bad : SndSF N O X i (.Assign [.Name n p] (.ListComp elt gens sc pos) spos) eBad := fun Y tk env st σ Z c H R E D h => h.elim
    unfold denLc
    split
    · rename_i tg iter ifs
      split
      · rename_i hc
        simp only [Bool.and_eq_true] at hc
        split
        · rename_i g hg
          split
          · rename_i hs
            exact sndsf_lc K.fit hi0 hl0 hsw hc.2 (K.blkOk hc.1) (slots_in hs) (D.I K tg iter) (fun s0 H0 C cl fp => D.G (K.blk s0 H0 C cl fp) tg g hg) (ifs_ok D K ifs) (fun s0 H0 C cl fp => D.E (K.blk s0 H0 C cl fp) elt)
          · exact bad
        · exact bad
      · exact bad
    · rename_i tg iter ifs tg1 iter1 ifs1
      split
      · rename_i hc
        simp only [Bool.and_eq_true] at hc
        split
        · rename_i g g1 hg hg1
          split
          · rename_i hs
            simp only [Bool.and_eq_true] at hs
            exact sndsf_lc2 K.fit hi0 hl0 hsw hc.1.2 hc.2 (K.blkOk hc.1.1) (slots_in hs.2) (slots_in hs.1) (fun i hi => hi) (D.I K tg iter) (fun s0 H0 C cl fp => D.G (K.blk s0 H0 C cl fp) tg g hg) (ifs_ok D K ifs) (fun s0 H0 C cl fp => D.I (K.blk s0 H0 C cl fp) tg1 iter1) (fun s0 H0 C cl fp => D.G (K.blk s0 H0 C cl fp) tg1 g1 hg1) (ifs_ok D K ifs1) (fun s0 H0 C cl fp => D.E (K.blk s0 H0 C cl fp) elt)
          · exact bad
        · exact bad
      · exact bad
    · exact bad
theorem own_ix {L : Lx} {x : PySem.Str} {i : Nat} (h : L.own x = some i) : Lx.ix L.N x = some i := by
  unfold Lx.own at h
  split at h
  · exact h
  · exact h
  · cases h
theorem nst : ∀ e : Expr, isStar e = false → (match e with | .Starred .. => true | _ => false) = false := fun e h => by cases e <;> first | rfl | cases h
theorem par_ok (K : Ok N O lv L X) (ht : L.top = true) {x y : PySem.Str} {px py pt pt2 : Pos} {kt k2 : Nat} {a b : Expr} (hxy : x ≠ y) (hx : L.names.lookup x = some .local) (hy : L.names.lookup y = some .local) (hl : px.line = py.line)
    (hsa : isStar a = false) (hsb : isStar b = false) (hf : [a, b].all (foldedForSure 8) = false) (hc : [a, b].all (constantsAlone 8) = false) :
    swappedStores [.Tuple [.Name x px, .Name y py] kt pt] (.Tuple [a, b] k2 pt2) X.env = pure (some [x, y]) := by
  have kx : X.env.kindOf x = some .local := K.kd x _ hx
  have ky : X.env.kindOf y = some .local := K.kd y _ hy
  have hb : X.env.blockKind = .function := by unfold Env.blockKind; rw [K.kind ht]; rfl
  have hst : ([a, b].any fun | .Starred .. => true | _ => false) = false := by
    simp only [List.any_cons, List.any_nil, Bool.or_false]
    rw [nst a hsa, nst b hsb]; rfl
  have he : ([x, y] : List PySem.Str).eraseDups.length = 2 := by
    have : (x == y) = false := by simpa using hxy
    have : (y == x) = false := by simpa using fun e => hxy e.symm
    simp [List.eraseDups_cons, this]
  unfold swappedStores
  simp only [hb, Expr.pos, kx, ky, hl, List.filterMap_cons, List.filterMap_nil, List.head?_cons, Option.map_some, Option.getD_some, beq_self_eq_true, Bool.and_self, if_true, List.length_cons, List.length_nil, he, hf, hc]
  refine Eq.trans (if_neg (by decide)) (Eq.trans (if_neg fun h => ?_) rfl)
  exact Bool.noConfusion (hst.symm.trans h)
/-- a, b = x, y, by a tuple -/
theorem snd_parT (F : Fit N X) {i j : Nat} {n m : PySem.Str} {a b : Expr} {x y : Ex} {px py pt pt2 pos : Pos} {kt k2 : Nat} (hi : Own X i n) (hj : Own X j m)
    (hsa : isStar a = false) (hsb : isStar b = false) (ha : SndE N O X a x) (hb : SndE N O X b y) (hw : swappedStores [.Tuple [.Name n px, .Name m py] kt pt] (.Tuple [a, b] k2 pt2) X.env = pure none) :
    SndS N O X (.Assign [.Tuple [.Name n px, .Name m py] kt pt] (.Tuple [a, b] k2 pt2) pos) (sPar i j x y) := by
  intro Y tk env st σ Z c H R E D h
  refine WS.of (ps_asg (pe_tup (pa_cons (WE.pe X a) (pa_cons (WE.pe X b) pa_nil (star_no hsb _ _)) (star_no hsa _ _))) (pg_tup (n := 2) F.calm (pgs_cons (pg_name F.nd hi.ix hi.loc hi.fn) (pgs_cons (pg_name F.nd hj.ix hj.loc hj.fn) pgs_nil))) (by rfl) hw) ?_
  refine ha Y tk env st σ Z c H R E _ (Outc.mono (OutS.to E h) (Ext.refl ..) fun w Z1 c1 H1 _ ⟨st1, R1, x1, h1⟩ v rv => ?_)
  refine hb Y tk env st1 σ Z1 c1 H1 R1 (E.mono x1) _ (Outc.mono (OutS.to (E.mono x1) h1) (Ext.refl ..) fun u Z2 c2 H2 _ ⟨st2, R2, x2, h2⟩ v' rv' => ?_)
  refine ⟨Nat.le_of_ble_eq_true rfl, fun p hp => ?_⟩
  obtain ⟨x3, R3⟩ := ext_new (o := .tup [v, v']) R2 hp
  refine ⟨p, [v, v'], rfl, SqT.of upd_same, rfl, v, [v'], rfl, v', [], rfl, rfl, ?_⟩
  exact h2 _ _ _ _ x3 R3 ((((E.mono x1).mono x2).mono x3).set ((rv.mono x2).mono x3) i |>.set (rv'.mono x3) j)
theorem parT_ok (K : Ok N O lv L X) {x y : PySem.Str} {px py pt pt2 : Pos} {kt k2 : Nat} {a b : Expr} (hxy : L.names.lookup x = some .cell ∨ L.names.lookup y = some .cell) :
    swappedStores [.Tuple [.Name x px, .Name y py] kt pt] (.Tuple [a, b] k2 pt2) X.env = pure none := by
  have z : (some NameKind.cell == some NameKind.local) = false := rfl
  rcases hxy with h | h
  · have q : X.env.kindOf x = some .cell := (K.kd x _ h).1
    unfold swappedStores
    simp only [Expr.pos, List.filterMap_cons, List.filterMap_nil, q, z, Bool.false_and, Bool.false_eq_true, if_false]
    split
    · rfl
    · split
      · rfl
      · split <;> rfl
  · have q : X.env.kindOf y = some .cell := (K.kd y _ h).1
    unfold swappedStores
    simp only [Expr.pos, List.filterMap_cons, List.filterMap_nil, q, z, Bool.false_and, Bool.false_eq_true, if_false]
    split
    · rfl
    · split
      · rfl
      · split <;> rfl
theorem stepS_ok (D : DenOk N O lv d) (K : Ok N O lv L X) (t : Stmt) : SndS N O X t (stepS d L t) := by
  unfold stepS
  split
  · exact snd_pass
  · exact snd_break
  · exact snd_cont
  · split
    · exact snd_sbad
    · rename_i hc
      exact snd_expr (by simpa using hc) (D.E K _)
  · exact snd_retN
  · split
    · exact snd_ret (SndF.new (D.F K _))
    · exact snd_ret (D.E K _)
  · exact snd_if (D.T K _) (D.B K _) (D.B K _)
  · split
    · rename_i hc
      simp only [Bool.and_eq_true] at hc
      split
      · rename_i g hg
        exact snd_for K.fit (K.pass hc.1) hc.2 (D.I K _ _) (D.G K _ _ hg) (D.B K _)
      · exact snd_sbad
    · exact snd_sbad
  · split
    · rename_i hc
      exact snd_while K.fit (K.pass hc) (D.T K _) (D.B K _)
    · exact snd_sbad
  · -- stores
    rename_i tg e pos
    split
    · rename_i x p
      split
      · exact snd_sbad
      · rename_i i ho
        split
        · rename_i elt gens sc vp
          split
          · split
            · exact SndSF.new (denLc_sf D K ho _ _ _ _ _ _)
            · exact SndSF.set (fun env st w st1 h => denLc_lst _ _ _ O env st w st1 h) (denLc_sf D K ho _ _ _ _ _ _)
          · exact snd_sbad
        · split
          · exact snd_sbad
          · rename_i hc
            have hc : isComp e = false := by simpa using hc
            split
            · exact snd_set K.fit hc (K.own ho) (SndF.new (D.F K _))
            · exact snd_set K.fit hc (K.own ho) (D.E K _)
    · rename_i ts kt tp
      split
      · rename_i vs k2 pt2
        split
        · rename_i x px y py a b
          split
          · rename_i i j hi hj
            split
            · rename_i hc
              obtain ⟨h1, h2, h3, h4, h5, h6, h7, h8, h9⟩ := hc
              have hi0 := (K.own hi).ix
              have hj0 := (K.own hj).ix
              have hij : i ≠ j := by
                intro e
                subst e
                rw [hi0] at hj0
                exact h2 (Option.some.inj hj0)
              have FE : ∀ (n : PySem.Str) (e : Expr), SndE N O X e (if L.chg.contains n then eNew (d.F L e) else d.E L e) := fun n e => by
                split
                · exact SndF.new (D.F K _)
                · exact D.E K _
              exact snd_par K.fit hi0 hj0 hij (K.kd _ _ h3) (K.kd _ _ h4) h6 h7 (FE x a) (FE y b) (par_ok K h1 h2 h3 h4 h5 h6 h7 h8 h9)
            · split
              · rename_i hc
                obtain ⟨h1, h2, h3⟩ := hc
                have FE : ∀ (n : PySem.Str) (e : Expr), SndE N O X e (if L.chg.contains n then eNew (d.F L e) else d.E L e) := fun n e => by
                  split
                  · exact SndF.new (D.F K _)
                  · exact D.E K _
                exact snd_parT K.fit (K.own hi) (K.own hj) h2 h3 (FE x a) (FE y b) (parT_ok K h1)
              · exact snd_sbad
          · exact snd_sbad
        · exact snd_sbad
      · rename_i hne
        split
        · exact snd_sbad
        · rename_i hc
          split
          · rename_i gs hg
            have ht : isTupX e = false := by
              cases e <;> first | rfl | exact (hne _ _ _ rfl).elim
            exact snd_unpack K.fit (by simpa using hc) ht (D.G K _ _ hg) (D.E K _)
          · exact snd_sbad
    · rename_i o i tpos
      split
      · exact snd_sbad
      · rename_i hc
        simp only [Bool.or_eq_true, not_or, Bool.not_eq_true, Bool.not_eq_true'] at hc
        refine snd_sub K.fit hc.1.1 hc.1.2 (D.E K _) (D.E K _) (D.E K _) fun v => ?_
        have hp : plainIx i = true := by simpa using hc.2
        cases i <;> first | rfl | cases hp
    · exact snd_sbad
  · exact snd_sbad
theorem fnAt_bf {x : PySem.Str} {b : Bf} (hb : BfOk N X x b) (hg : Gl X x) (hm : X.mg x = none) : FnAt N X x b.f := by
  cases b with
  | fn id f => exact fnAtB (f := f) hb.1 hg hm hb.2.1 hb.2.2.1 hb.2.2.2
  | ty id f => exact fnAtT (f := f) hb.1 hg hm hb.2.1 hb.2.2.1 hb.2.2.2
theorem stepB_ok (D : DenOk N O lv d) (K : Ok N O lv L X) (hi : CallV N X (.builtin "isinstance") isi) (l : List Stmt) : SndSs N O X l (stepB isi d L l) := by
  unfold stepB
  split
  · exact snds_nil
  · rename_i a b
    split
    · rename_i m hm
      unfold zipR at hm
      split at hm
      · rename_i n np z zp a b zpos p1 f fp elt elts kk tp n' np' ifs sc scp cpos rpos
        split at hm
        · rename_i hc
          obtain ⟨rfl, rfl, hsa, hsb, _⟩ := hc
          split at hm
          · rename_i i j bf g ho hs hz hgf hbf hg
            split at hm
            · rename_i hcc
              cases hm
              simp only [Bool.and_eq_true] at hcc
              obtain ⟨hg0, hm0⟩ := blt_of K hz
              obtain ⟨hg1, hm1⟩ := blt_of K hgf
              have ow := K.own ho
              obtain ⟨h1, h2, h3, h4⟩ := K.slot hs
              have hlt : i < X.N.length := (List.getElem?_eq_some_iff.mp ow.ix).1
              have fa : FnAt N X f bf.f := fnAt_bf (bltF_ok K.fit hi hbf) hg1 hm1
              exact sndss_zipR K.fit ow hlt h2 h3 h4 rfl (fun Y tk env st σ Z c H R E T h => we_zip2 K.fit hg0 hm0 hsa hsb (D.E K a) (D.E K b) tk R E h) fa (K.blkOk hcc.1) (slots_in hcc.2)
                (fun s0 H0 C cl fp => D.G (K.blk s0 H0 C cl fp) _ g hg) (ifs_ok D K ifs) (fun s0 H0 C cl fp => D.E (K.blk s0 H0 C cl fp) elt)
            · cases hm
          · cases hm
        · cases hm
      · cases hm
    · exact snds_cons (D.S K a) (D.B K [b])
  · exact snds_cons (D.S K _) (D.B K _)
theorem den_ok (hty : N.tyn = tyS) (hi : ∀ X : Cx, Fit N X → CallV N X (.builtin "isinstance") isi) : ∀ n, DenOk N O lv (den isi n)
  | 0 => den0_ok
  | n + 1 => by
    have D := den_ok hty hi n
    exact ⟨fun K e => stepE_ok D K (hi _ K.fit) hty e, fun K e => stepT_ok D K e, fun K e => stepW_ok D K e, fun K t => stepS_ok D K t, fun K l => stepB_ok D K (hi _ K.fit) l, fun K e g h => stepG_ok D K e g h, fun K tg e => denI_ok D K tg e, fun K e => stepF_ok D K e⟩
end
end PV
end
section
set_option linter.all false
set_option Elab.async false
set_option maxRecDepth 100000
set_option maxHeartbeats 4000000
/-! PV29: a law's end, by its plain function. -/
namespace PV
open PySem PySem.Spec PyProof.Rows L2
/-- what the caller of a law wishes -/
abbrev Fin0 (s1 : Shared) (r : Result) (s2 : Shared) : Prop := r = .ok (.ret (.bool true)) ∧ OldK s1.heap s2.heap ∧ s2.os = s1.os ∧ AllBare s2.gens
/-- the script as it lies -/
abbrev scrO (us : List Value) : Obj := { cls := .type "list", data := .seq us.toArray }
theorem end_at {P : Program} {w : World} {K : PySem.W.Frag} {mg mb : PySem.Str → Option Value} {k : Nat} {fa a : Addr} {fd : FuncData} {x : PySem.Str} {sp : Sp} {t : Shared} {us : List Value} {H : Hp}
    (kin : K.In t.heap) (g1 : t.heap.Ns mainGlobals mg) (g2 : t.heap.Ns builtinsNs mb) (g3 : ∀ y : PySem.Str, y ≠ "__name__" → mb y = bootBuiltins y) (g4 : t.heap.NoLimit) (g5 : t.gens = #[])
    (ga : t.heap.get? a = some (scrO us)) (rm : Room k callerA) (F : ∀ b : Heap, K.In b → b.Ns mainGlobals mg → Fk P w K mg b k fa fd [x] sp)
    (bd : ∀ (s : Shared) (u : Value), BindsTo s fd ⟨[u], []⟩ [(x, u)]) (pr : sp [.ref a] H (fun v _ => v = .bl true) fun _ _ _ => False)
    (only : Only H) (ok : HOk P w H t.heap) (one : ∀ b, H b ≠ none → b = a) (non : H a ≠ none → K.lookup a = none) :
    codeAny (model P w) callerA (.call (.ref fa) ⟨[.ref a], []⟩) (Fin0 t) t := by
  let h0 := hidT t.heap H
  have nodict : ∀ {b : Addr} {o : Obj} {es : Array DictEntry} {ep : Nat}, t.heap.get? b = some o → o.data = .dict es ep → H b = none := by
    intro b o es ep e dd
    by_cases q : H b = none
    · exact q
    · rw [one b q, ga] at e
      cases e
      cases (show Data.seq us.toArray _ = Data.dict es ep from dd)
  have ns : ∀ {b : Addr} {m : PySem.Str → Option Value}, t.heap.Ns b m → h0.Ns b m := by
    rintro b m ⟨o, es, ep, e, dd, r⟩
    exact ⟨o, es, ep, hidT_get e (nodict e dd), dd, r⟩
  have kb : K.In h0 := by
    intro b o e
    refine hidT_get (kin b o e) ?_
    by_cases q : H b = none
    · exact q
    · have hb := one b q
      subst hb
      rw [non q] at e
      cases e
  have md : Mod K mg h0 := ⟨kb, ns g1, ⟨mb, ns g2, g3⟩, by obtain ⟨mc, q1, q2⟩ := g4; exact ⟨mc, ns q1, q2⟩⟩
  have e0 : Env0 P w K mg h0 callerA [] t H := ⟨rfl, md, fun _ _ e => of_hidT e, Nat.le_of_eq (hidT_size _ _), trivial, fun b hb => (List.not_mem_nil (show b ∈ ([] : List Addr) from hb)).elim, ok, .of_eq g5⟩
  have run := (F h0 kb (ns g1)).goes callerA [] t H ⟨[.ref a], []⟩ [.ref a] [.ref a] _ _ rm rfl e0 (bd t (.ref a)) (.cons rfl .nil) pr
  refine codeAny_mono run fun r t2 q => ?_
  cases r with
  | error e =>
    obtain ⟨_, _, _, _, _, _, _, _, _, _, _, _, z⟩ := q
    exact z.elim
  | ok fl =>
    cases fl with
    | next => exact False.elim q
    | brk => exact False.elim q
    | cont => exact False.elim q
    | ret u =>
      obtain ⟨v, H2, os, bare, un, ok2, rv, e⟩ := q
      subst e
      cases (show u = Value.bool true from rv)
      refine ⟨rfl, OldK.of_keep fun b o e => ?_, os, bare⟩
      rcases only b with z | ⟨ob, xs, z⟩
      · exact un.keep b o e z (fun m => (List.not_mem_nil (show b ∈ ([] : List Addr) from m)).elim) (by simp)
      · have e1 := (ok b _ z).1
        rw [e] at e1
        cases e1
        exact (ok2 b _ (un.frzs b _ _ z)).1
theorem end_call {P : Program} {w : World} {K : PySem.W.Frag} {mg mb : PySem.Str → Option Value} {k : Nat} {fa a : Addr} {fd : FuncData} {x : PySem.Str} {sp : Sp} {t : Shared} {us : List Value} {zs : List Int}
    (kin : K.In t.heap) (g1 : t.heap.Ns mainGlobals mg) (g2 : t.heap.Ns builtinsNs mb) (g3 : ∀ y : PySem.Str, y ≠ "__name__" → mb y = bootBuiltins y) (g4 : t.heap.NoLimit) (g5 : t.gens = #[])
    (ga : t.heap.get? a = some (scrO us)) (hi : IntsAre us zs) (hl : zs.length ≤ sizeLine) (rm : Room k callerA) (F : ∀ b : Heap, K.In b → b.Ns mainGlobals mg → Fk P w K mg b k fa fd [x] sp)
    (bd : ∀ (s : Shared) (u : Value), BindsTo s fd ⟨[u], []⟩ [(x, u)]) (pr : ∀ H : Hp, Only H → SqL K H a (zs.map V.int) → sp [.ref a] H (fun v _ => v = .bl true) fun _ _ _ => False) :
    codeAny (model P w) callerA (.call (.ref fa) ⟨[.ref a], []⟩) (Fin0 t) t := by
  have rv := vals_ints hi
  have hle : us.length ≤ sizeLine := by rw [hi.length]; exact hl
  cases kl : K.lookup a with
  | some o =>
    have e := kin a o kl
    rw [ga] at e
    cases e
    have q : SqL K (fun _ => none) a (zs.map V.int) := .inr ⟨_, us.toArray, _, kl, rfl, rfl, rfl, by simpa using hle, by simpa using rv⟩
    exact end_at kin g1 g2 g3 g4 g5 ga rm F bd (pr _ (fun _ => .inl rfl) q) (fun _ => .inl rfl) (fun b u z => nomatch (show (none : Option HO) = some u from z)) (fun b z => (z rfl).elim) fun z => (z rfl).elim
  | none =>
    let H : Hp := fun b => if b = a then some (.frz (scrO us) (.lst (zs.map V.int))) else none
    have ha : H a = some (.frz (scrO us) (.lst (zs.map V.int))) := if_pos rfl
    have hne : ∀ {b}, b ≠ a → H b = none := fun hb => if_neg hb
    have only : Only H := fun b => by
      by_cases hb : b = a
      · subst hb; exact .inr ⟨_, _, ha⟩
      · exact .inl (hne hb)
    refine end_at (H := H) kin g1 g2 g3 g4 g5 ga rm F bd (pr H only (.inl (.inr ⟨_, ha⟩))) only (fun b u z => ?_) (fun b z => ?_) fun _ => kl
    · by_cases hb : b = a
      · subst hb
        rw [ha] at z
        cases z
        exact ⟨ga, by rw [List.length_map]; exact hl, us, _, rv, ga⟩
      · rw [hne hb] at z; cases z
    · by_cases hb : b = a
      · exact hb
      · exact (z (hne hb)).elim
/-- a law, by the head's facts -/
theorem walkF {l : PySem.W.OpenLaw} {n k : Nat} {q : Program} {loose : List PySem.Str} {XP : (PySem.Str → Option Value) → Heap → Prop} {YP : World → Heap → Prop} {d : DefRec} {x : PySem.Str}
    (hn : l.most = some n) (hn2 : n ≤ sizeLine) (hdf : d.params.defaults = []) (hr : Room k callerA)
    (F : ∀ (w : World) (mg : PySem.Str → Option Value) (fa : Addr) (h : Heap), YP w h → h.Ns mainGlobals mg → mg d.name = some (.ref fa) →
      ∃ (K : PySem.W.Frag) (fd : FuncData) (sp : Sp), K.In h ∧ (∀ (s : Shared) (u : Value), BindsTo s fd ⟨[u], []⟩ [(x, u)]) ∧
        (∀ (H : Hp) (a : Addr) (zs : List Int), zs.length ≤ n → Only H → SqL K H a (zs.map V.int) → sp [.ref a] H (fun v _ => v = .bl true) fun _ _ _ => False) ∧
        ∀ base : Heap, K.In base → base.Ns mainGlobals mg → Fk l.prog w K mg base k fa fd [x] sp) :
    PySem.W.WalkO q loose XP YP l.row.toRowW d [] (fun f vs => PySem.call f vs) := by
  refine Att.attach_call hn hdf fun w t0 t mg mb fa o pm cd doc a us zs G Y ho hd hcd hmg hobj hints hlen hg => ?_
  obtain ⟨K, fd, sp, KX, hb, hsp, hF⟩ := F w mg fa _ Y G.T.g hmg
  exact end_call KX G.T.g G.T.b G.T.builtins G.T.nolimit hg hobj hints (Nat.le_trans hlen hn2) hr hF hb fun H hO hS => hsp H a zs hlen hO hS
/-- the plain function gives True of every script -/
theorem sp_law {N : Nm} {O : Orc} {i n : Nat} (h : ∀ zs : List Int, zs.length ≤ n → ∃ st, O i [.v (.lst (zs.map A.int))] [] = .ok (.v (.bl true)) st) {K : PySem.W.Frag} (hK : N.K = K) :
    ∀ (H : Hp) (a : Addr) (zs : List Int), zs.length ≤ n → Only H → SqL K H a (zs.map V.int) → spOf N O i 1 [.ref a] H (fun v _ => v = .bl true) fun _ _ _ => False := by
  intro H a zs hl _ hS
  obtain ⟨st, e⟩ := h zs hl
  have intsR : ∀ zs : List Int, RpL N H (zs.map A.int) (zs.map V.int) := by
    intro zs
    induction zs with
    | nil => exact .nil
    | cons z zs ih => exact .cons (.int z) ih
  refine ⟨H, [], [], [.v (.lst (zs.map A.int))], rfl, ⟨Le.refl _, rfl, .nil, (fun _ h => nomatch h), fun n p C e => by simp at e⟩, .cons (.lst (by rw [hK]; exact hS) (intsR zs)) .nil, ?_⟩
  rw [e]
  intro Z' c' H' x R v rv
  cases rv
  rfl
end PV
end
section
set_option linter.all false
set_option Elab.async false
set_option maxRecDepth 100000
set_option maxHeartbeats 4000000
/-! PV30: all defs of a program at once. -/
namespace PV
open PySem PySem.Spec PyProof.Rows L2
/-- one def: its number, its name, its text, its slots, what changes in it -/
structure Df where
  i : Nat
  x : PySem.Str
  ps : List PySem.Str
  params : Arguments
  body : List Stmt
  scope : Scope
  Nn : List PySem.Str
  chg : List PySem.Str := []
  ret : Bool := false
  lk : Bool := false
  ds : List A := []
  pats : List KwPat := []
abbrev Gt := List (PySem.Str × Gv)
def Df.lx (g : Gt) (D : Df) : Lx := ⟨D.Nn, D.scope.names, true, g, D.chg, D.ret⟩
def Df.fnd (isi : List A → Option A) (n : Nat) (g : Gt) (D : Df) : FnD := ⟨D.ps.length, D.Nn.length, (den isi n).B (D.lx g) D.body, D.lk⟩
/-- what the program's names stand for -/
def gOf (defs : List Df) (cs : List (PySem.Str × A)) (fr : List PySem.Str) : Gt := (defs.map fun D => (D.x, .fn D.i D.ps.length D.ds D.pats)) ++ ((cs.map fun p => (p.1, .con p.2)) ++ fr.map fun x => (x, .blt))
structure DfOk (N : Nm) (K : PySem.W.Frag) (mg : PySem.Str → Option Value) (D : Df) : Prop where
  sc : FnScope D.Nn D.ps D.scope
  ex : ∃ f fd dvs, mg D.x = some (.ref f) ∧ FunD K D.x D.x D.params D.body D.scope dvs [] f fd ∧
    (∀ m, m ≤ D.ps.length → D.ps.length - m ≤ D.ds.length → ∃ us dvs, Vals dvs us ∧ (∀ Z, RpL N Z (D.ds.drop (D.ds.length - (D.ps.length - m))) dvs) ∧ Binds K fd D.ps us) ∧
    ∀ p ∈ D.pats, p.perm.length = D.ps.length ∧ (∀ j ∈ p.perm, j < p.n + p.ks.length) ∧ ∀ (s : Shared) (us ws : List Value), K.In s.heap → us.length = p.n → ws.length = p.ks.length → BindsTo s fd ⟨us, p.ks.zip ws⟩ (D.ps.zip (selF p.perm (us ++ ws)))
theorem lookup_mem {α β : Type} [BEq α] [LawfulBEq α] {x : α} {v : β} : ∀ {l : List (α × β)}, l.lookup x = some v → (x, v) ∈ l
  | [], h => nomatch h
  | (y, w) :: l, h => by
    rw [List.lookup_cons] at h
    cases e : x == y with
    | true =>
      rw [e] at h
      cases h
      rw [show x = y by simpa using e]
      exact List.mem_cons_self
    | false =>
      rw [e] at h
      exact List.mem_cons_of_mem _ (lookup_mem h)
theorem Fk.mono {P : Program} {w : World} {K : PySem.W.Frag} {mg : PySem.Str → Option Value} {base : Heap} {j k : Nat} {f : Addr} {fd : FuncData} {ps : List PySem.Str} {sp : Sp} (F : Fk P w K mg base j f fd ps sp) (h : j ≤ k) : Fk P w K mg base k f fd ps sp :=
  ⟨F.lens, fun A out s H ar us vs Q E r => F.goes A out s H ar us vs Q E (r.mono h)⟩
section
variable {P : Program} {w : World} {N : Nm} {mg : PySem.Str → Option Value} {base : Heap} {isi : List A → Option A} {n : Nat} {defs : List Df} {cs : List (PySem.Str × A)} {fr : List PySem.Str} {T : Nat → Option FnD}
theorem prog_ok (hw : N.w = w) (hty : N.tyn = tyS) (hi : ∀ X : Cx, Fit N X → CallV N X (.builtin "isinstance") isi) (hD : ∀ D ∈ defs, DfOk N N.K mg D) (hT : ∀ D ∈ defs, T D.i = some (D.fnd isi n (gOf defs cs fr)))
    (hc : ∀ p ∈ cs, ∃ v u, mg p.1 = some u ∧ RelV v u ∧ ∀ Z, Rp N Z p.2 v) (hf : ∀ x ∈ fr, mg x = none) :
    ∀ d, ∀ D ∈ defs, ∀ f, mg D.x = some (.ref f) → ∃ fd, Fk P w N.K mg base (3 * d) f fd D.ps (spOf N (run T d) D.i D.ps.length) ∧ (∃ oc od osl, N.K.lookup f = some ⟨oc, od, .func fd, osl⟩) ∧ PySem.W.keepIn N.K (.ref f) = true ∧
      (∀ m, m ≤ D.ps.length → D.ps.length - m ≤ D.ds.length → ∃ us dvs, Vals dvs us ∧ (∀ Z, RpL N Z (D.ds.drop (D.ds.length - (D.ps.length - m))) dvs) ∧ Binds N.K fd D.ps us) ∧
      ∀ p ∈ D.pats, p.perm.length = D.ps.length ∧ (∀ j ∈ p.perm, j < p.n + p.ks.length) ∧ ∀ (s : Shared) (us ws : List Value), N.K.In s.heap → us.length = p.n → ws.length = p.ks.length → BindsTo s fd ⟨us, p.ks.zip ws⟩ (D.ps.zip (selF p.perm (us ++ ws))) := by
  intro d
  induction d with
  | zero =>
    intro D hm f hmg
    obtain ⟨f2, fd, dvs, e1, F, b1, b2⟩ := (hD D hm).ex
    rw [hmg] at e1
    cases e1
    refine ⟨fd, ⟨fun vs H Q E h => ?_, fun A out s H ar us vs Q E _ _ _ _ _ h => ?_⟩, let ⟨oc, od, _, _, _, _, _, _, _, osl, _, lk, _⟩ := F.ex; ⟨oc, od, osl, lk⟩, F.kp, b1, b2⟩
    · obtain ⟨Z, c, st, args, _, _, _, z⟩ := h
      exact z.elim
    · obtain ⟨Z, c, st, args, _, _, _, z⟩ := h
      exact z.elim
  | succ d ih =>
    intro D hm f hmg
    obtain ⟨f2, fd, dvs, e1, F, b1, b2⟩ := (hD D hm).ex
    rw [hmg] at e1
    cases e1
    refine ⟨fd, ?_, let ⟨oc, od, _, _, _, _, _, _, _, osl, _, lk, _⟩ := F.ex; ⟨oc, od, osl, lk⟩, F.kp, b1, b2⟩
    have S := (hD D hm).sc
    refine fn_sound (lv := 3 * d + 2) (pd := D.fnd isi n (gOf defs cs fr)) hw F S (hT D hm) rfl rfl fun X Ft hP hmgX hbase hN hsc hfn hst hfr hex hpass rm => ?_
    have DK : DenOk N (run T d) (3 * d + 2) (den isi n) := den_ok hty hi n
    refine DK.B (L := D.lx (gOf defs cs fr)) (X := X) ⟨Ft, hN, fun x k e => ?_, fun x v e => ?_, rm, fun _ => by rw [hsc]; exact S.kind, fun _ => hpass⟩ D.body
    · have e : D.scope.names.lookup x = some k := e
      rw [← hsc] at e
      cases k with
      | «local» => exact e
      | cell => exact ⟨e, by rw [hfn]⟩
      | free => exact .inr e
      | globalImplicit => exact e
      | globalExplicit => trivial
    · have e := lookup_mem (show (gOf defs cs fr).lookup x = some v from e)
      unfold gOf at e
      rcases List.mem_append.mp e with e | e
      · obtain ⟨D2, hm2, e⟩ := List.mem_map.mp e
        cases e
        obtain ⟨f3, fd3, dvs3, g1, _⟩ := (hD D2 hm2).ex
        obtain ⟨fd4, FK, _, kp, c1, c2⟩ := ih D2 hm2 f3 g1
        have FK2 : Fk X.prog X.w X.K X.mg X.base (3 * d) f3 fd4 D2.ps (spOf N (run T d) D2.i D2.ps.length) := by
          rw [hP, hmgX, hbase, Ft.w, Ft.K, hw]
          exact FK
        have FK3 := FK2.mono (show 3 * d ≤ 3 * d + 2 by omega)
        have mgX : X.mg D2.x = some (.ref f3) := by rw [hmgX]; exact g1
        have kpX : PySem.W.keepIn X.K (.ref f3) = true := by rw [Ft.K]; exact kp
        refine ⟨⟨f3, fd4, D2.ps, mgX, FK3, kpX, rfl, fun m h1 h2 => ?_⟩, fun p hp => ?_, fun h1 => ?_⟩
        · rw [Ft.K]; exact c1 m h1 h2
        · obtain ⟨q1, q2, q3⟩ := c2 p hp
          exact ⟨q1, q2, f3, fd4, D2.ps, mgX, FK3, kpX, rfl, fun s us ws hk => by rw [Ft.K] at hk; exact q3 s us ws hk⟩
        · obtain ⟨us, dvs5, v1, v2, bb⟩ := c1 D2.ps.length (Nat.le_refl _) (by omega)
          have hz : dvs5 = [] := by
            have q := v2 (fun _ => none)
            rw [Nat.sub_self, Nat.sub_zero, List.drop_length] at q
            cases q; rfl
          subst hz
          cases v1
          exact ⟨f3, mgX, ⟨3 * d, fd4, D2.ps, h1, by rw [← h1]; exact FK2, rm.in1.in1, by rw [Ft.K]; exact bb⟩⟩
      · rcases List.mem_append.mp e with e | e
        · obtain ⟨p, hp, e⟩ := List.mem_map.mp e
          cases e
          obtain ⟨v, u, q1, q2, q3⟩ := hc p hp
          exact ⟨v, u, by rw [hmgX]; exact q1, q2, q3⟩
        · obtain ⟨y, hy, e⟩ := List.mem_map.mp e
          cases e
          exact (congrFun hmgX _).trans (hf _ hy)
end
end PV
end
section
set_option linter.all false
set_option Elab.async false
set_option maxRecDepth 100000
set_option maxHeartbeats 4000000
/-! PV31: a def's facts from the head. -/
namespace PV
open PySem PySem.Spec PyProof.Rows L2
/-- how arguments come to a def without defaults -/
structure BindsD (D : Df) : Prop where
  ds : D.ds = []
  pos : ∀ (kV doc pm : Value) (an : Option Addr) (cdv ct : Value) (us : List Value), us.length = D.ps.length → bindArgs (PySem.W.fnOf D.x D.x D.params D.body D.scope .none kV doc pm an cdv ct) ⟨us, []⟩ = pure (D.ps.zip us)
  kw : ∀ p ∈ D.pats, p.perm.length = D.ps.length ∧ (∀ j ∈ p.perm, j < p.n + p.ks.length) ∧ ∀ (kV doc pm : Value) (an : Option Addr) (cdv ct : Value) (us ws : List Value), us.length = p.n → ws.length = p.ks.length →
    bindArgs (PySem.W.fnOf D.x D.x D.params D.body D.scope .none kV doc pm an cdv ct) ⟨us, p.ks.zip ws⟩ = pure (D.ps.zip (selF p.perm (us ++ ws)))
theorem DfOk.of {N : Nm} {K : PySem.W.Frag} {mg : PySem.Str → Option Value} {D : Df} {f : Addr} {fd : FuncData} (S : FnScope D.Nn D.ps D.scope) (hm : mg D.x = some (.ref f)) (F : FunD K D.x D.x D.params D.body D.scope [] [] f fd) (B : BindsD D) : DfOk N K mg D := by
  refine ⟨S, f, fd, [], hm, F, fun m h1 h2 => ?_, fun p hp => ?_⟩
  · rw [B.ds] at h2 ⊢
    have e : m = D.ps.length := by simp at h2; omega
    refine ⟨[], [], .nil, fun Z => by rw [List.drop_nil]; exact .nil, F.bindsN B.pos⟩
  · obtain ⟨q1, q2, q3⟩ := B.kw p hp
    refine ⟨q1, q2, fun s us ws _ h1 h2 => ?_⟩
    obtain ⟨oc, od, dV, kV, doc, pm, an, cdv, ct, osl, rfl, lk, hcd, hD, hK⟩ := F.ex
    rcases hD with ⟨_, rfl⟩ | ⟨e, _⟩
    · exact .of_eq (q3 kV doc pm an cdv ct us ws h1 h2)
    · exact absurd rfl e
/-- the names of a program without own values -/
def nm0 (K : PySem.W.Frag) (w : World) : Nm := ⟨K, w, fun _ => 0, fun _ => 0, fun _ => "", tyS⟩
def isiN : List A → Option A := bIsi (fun _ => false) fun _ _ => none
theorem isiN_ok (K : PySem.W.Frag) (w : World) : IsiOk (nm0 K w) (fun _ => false) fun _ _ => none := ⟨rfl, (fun _ h => nomatch h), (fun _ _ _ h => nomatch h), (fun _ _ h => nomatch h), fun _ _ h => nomatch h⟩
/-- the law's def keeps its promise -/
theorem law_ok {P : Program} {w : World} {N : Nm} {mg : PySem.Str → Option Value} {isi : List A → Option A} {n d m : Nat} {defs : List Df} {cs : List (PySem.Str × A)} {fr : List PySem.Str} {T : Nat → Option FnD} {D : Df} {f : Addr}
    (hw : N.w = w) (hty : N.tyn = tyS) (hi : ∀ X : Cx, Fit N X → CallV N X (.builtin "isinstance") isi) (hD : ∀ D ∈ defs, DfOk N N.K mg D) (hT : ∀ D ∈ defs, T D.i = some (D.fnd isi n (gOf defs cs fr)))
    (hc : ∀ p ∈ cs, ∃ v u, mg p.1 = some u ∧ RelV v u ∧ ∀ Z, Rp N Z p.2 v) (hf : ∀ x ∈ fr, mg x = none) (hm : D ∈ defs) (hx : D.ps = [("script" : PySem.Str)]) (hmg : mg D.x = some (.ref f)) {fd : FuncData} (F : FunD N.K D.x D.x D.params D.body D.scope [] [] f fd) (hb : BindsD D)
    (hl : ∀ zs : List Int, zs.length ≤ m → ∃ st, run T d D.i [.v (.lst (zs.map A.int))] [] = .ok (.v (.bl true)) st) :
    ∃ sp : Sp, (∀ (s : Shared) (u : Value), BindsTo s fd ⟨[u], []⟩ [("script", u)]) ∧
        (∀ (H : Hp) (a : Addr) (zs : List Int), zs.length ≤ m → Only H → SqL N.K H a (zs.map V.int) → sp [.ref a] H (fun v _ => v = .bl true) fun _ _ _ => False) ∧
        ∀ base : Heap, N.K.In base → base.Ns mainGlobals mg → Fk P w N.K mg base (3 * d) f fd [("script" : PySem.Str)] sp := by
  have hps : D.ps.length = 1 := by rw [hx]; rfl
  refine ⟨spOf N (run T d) D.i 1, fun s u => ?_, sp_law hl rfl, fun base hk hg => ?_⟩
  · obtain ⟨oc, od, dV, kV, doc, pm, an, cdv, ct, osl, rfl, lk, hcd, hDf, hK⟩ := F.ex
    rcases hDf with ⟨_, rfl⟩ | ⟨e, _⟩
    · have q := hb.pos kV doc pm an cdv ct [u] (by rw [hps]; rfl)
      rw [hx] at q
      exact .of_eq q
    · exact absurd rfl e
  · obtain ⟨fdx, FK, ⟨oc, od, osl, lk⟩, _, _, _⟩ := prog_ok (P := P) (base := base) hw hty hi hD hT hc hf d D hm f hmg
    obtain ⟨oc2, od2, dV, kV, doc, pm, an, cdv, ct, osl2, _, lk2, _⟩ := F.ex
    rw [lk] at lk2
    cases lk2
    rw [hx] at FK
    exact FK
end PV
end
section
set_option linter.all false
/-! PT: terms of the package's defs; printed by mk.py. -/
namespace PV
/-- is_integer(value) |  -/
noncomputable def b_is_integer (isi : List A → Option A) : Stm := (sSeq (sRet (eAnd (eFn isi (esCons (eVar 0) (esCons (eCon (.ty 2)) esNil))) (eNot (eFn isi (esCons (eVar 0) (esCons (eCon (.ty 1)) esNil)))))) sNil)
noncomputable def f_is_integer (isi : List A → Option A) : FnD := ⟨1, 1, b_is_integer isi, false⟩
/-- is_within(value, least, most) |  -/
noncomputable def b_is_within : Stm := (sSeq (sRet (eAnd (eCall 0 (esDef (esCons (eVar 0) esNil) [])) (eTest (tChain fLe fLe (eVar 1) (eVar 0) (eVar 2))))) sNil)
noncomputable def f_is_within : FnD := ⟨3, 3, b_is_within, false⟩
/-- is_listed(value) |  -/
noncomputable def b_is_listed (isi : List A → Option A) : Stm := (sSeq (sRet (eFn isi (esCons (eVar 0) (esCons (eTup (esCons (eCon (.ty 5)) (esCons (eCon (.ty 4)) esNil))) esNil)))) sNil)
noncomputable def f_is_listed (isi : List A → Option A) : FnD := ⟨1, 1, b_is_listed isi, false⟩
/-- is_row(value, least, most) |  -/
noncomputable def b_is_row : Stm := (sSeq (sRet (eAnd (eCall 2 (esDef (esCons (eVar 0) esNil) [])) (eTest (tChain fLe fLe (eVar 1) (eFn bLen (esCons (eVar 0) esNil)) (eVar 2))))) sNil)
noncomputable def f_is_row : FnD := ⟨3, 3, b_is_row, false⟩
/-- is_no_greater(one, other) | .0, value, its -/
noncomputable def b_is_no_greater : Stm := (sSeq (sRet (eFn bAll (esCons (eLc (itZip2 (eVar 0) (eVar 1)) (.tup [(.slot 3), (.slot 4)]) [2, 3, 4] PV.tYes (eOr (eOp2 fIs (eVar 4) (eCon .non)) (eAnd (eOp2 fIsn (eVar 3) (eCon .non)) (eOp2 fLe (eVar 3) (eVar 4))))) esNil))) sNil)
noncomputable def f_is_no_greater : FnD := ⟨2, 5, b_is_no_greater, false⟩
/-- order_of(line) | .0, value -/
noncomputable def b_order_of : Stm := (sSeq (sRet (eFn bTuple (esCons (eLc (itSeq (eVar 0)) (.slot 2) [1, 2] PV.tYes (eTup (esCons (eOp2 fIs (eVar 2) (eCon .non)) (esCons (eIf (tEx (eOp2 fIs (eVar 2) (eCon .non))) (eCon (.int 0)) (eVar 2)) esNil)))) esNil))) sNil)
noncomputable def f_order_of : FnD := ⟨1, 3, b_order_of, false⟩
/-- ordered(lines) | .0, line -/
noncomputable def b_ordered : Stm := (sSeq (sRet (eSortK 5 (eDc (itSeq (eVar 0)) (.slot 2) [1, 2] PV.tYes (eVar 2) (eCon (.bl true))))) sNil)
noncomputable def f_ordered : FnD := ⟨1, 3, b_ordered, false⟩
/-- least_among(lines) | found, line, .0, one -/
noncomputable def b_least_among : Stm := (sSeq (sSet 1 (eNew (eLst esNil))) (sSeq (sFor (itSeq (eCall 6 (esDef (esCons (eVar 0) esNil) []))) (.slot 2) (sSeq (sIf (PV.tNot (tEx (eFn bAny (esCons (eLc (itSeq (eVar 1)) (.slot 4) [3, 4] PV.tYes (eCall 4 (esDef (esCons (eVar 4) (esCons (eVar 2) esNil)) []))) esNil)))) (sSeq (sEx (eMut mAppend (eVar 1) (esCons (eVar 2) esNil))) sNil) sNil) sNil)) (sSeq (sRet (eVar 1)) sNil)))
noncomputable def f_least_among : FnD := ⟨1, 5, b_least_among, false⟩
/-- greatest_among(lines) | found, line, .0, one -/
noncomputable def b_greatest_among : Stm := (sSeq (sSet 1 (eNew (eLst esNil))) (sSeq (sFor (itSeq (eOp1 fRev (eCall 6 (esDef (esCons (eVar 0) esNil) [])))) (.slot 2) (sSeq (sIf (PV.tNot (tEx (eFn bAny (esCons (eLc (itSeq (eVar 1)) (.slot 4) [3, 4] PV.tYes (eCall 4 (esDef (esCons (eVar 2) (esCons (eVar 4) esNil)) []))) esNil)))) (sSeq (sEx (eMut mAppend (eVar 1) (esCons (eVar 2) esNil))) sNil) sNil) sNil)) (sSeq (sRet (eOp1 fRev (eVar 1))) sNil)))
noncomputable def f_greatest_among : FnD := ⟨1, 5, b_greatest_among, false⟩
/-- with_entry(line, at, value) |  -/
noncomputable def b_with_entry : Stm := (sSeq (sRet (eTup (esStar (eSl (eVar 0) none (some (eVar 1))) (esCons (eVar 2) (esStar (eSl (eVar 0) (some (eOp2 fAdd (eVar 1) (eCon (.int 1)))) none) esNil))))) sNil)
noncomputable def f_with_entry : FnD := ⟨3, 3, b_with_entry, false⟩
/-- joined(one, other) | pairs, .0, value, its -/
noncomputable def b_joined : Stm := (sZipR 2 (itZip2 (eVar 0) (eVar 1)) (.tup [(.slot 4), (.slot 5)]) [3, 4, 5] PV.tYes (eIf (PV.tOr (tEx (eOp2 fIs (eVar 4) (eCon .non))) (tEx (eOp2 fIs (eVar 5) (eCon .non)))) (eCon .non) (eFn bMax (esCons (eVar 4) (esCons (eVar 5) esNil)))) bTuple)
noncomputable def f_joined : FnD := ⟨2, 6, b_joined, false⟩
/-- met(one, other) | pairs, .0, value, its -/
noncomputable def b_met : Stm := (sZipR 2 (itZip2 (eVar 0) (eVar 1)) (.tup [(.slot 4), (.slot 5)]) [3, 4, 5] PV.tYes (eIf (tEx (eOp2 fIs (eVar 4) (eCon .non))) (eVar 5) (eIf (tEx (eOp2 fIs (eVar 5) (eCon .non))) (eVar 4) (eFn bMin (esCons (eVar 4) (esCons (eVar 5) esNil))))) bTuple)
noncomputable def f_met : FnD := ⟨2, 6, b_met, false⟩
/-- let_lines(lines) |  -/
noncomputable def b_let_lines : Stm := (sSeq (sIf (tEx (eOp2 fGt (eFn bLen (esCons (eVar 0) esNil)) (eCon (.int 400)))) (sSeq sBad sNil) sNil) (sSeq (sRet (eVar 0)) sNil))
noncomputable def f_let_lines : FnD := ⟨1, 1, b_let_lines, false⟩
/-- below_none(many, line) | whole, .0, at, value -/
noncomputable def b_below_none : Stm := (sSeq (sSet 2 (eOp2 fMul (eTup (esCons (eCon .non) esNil)) (eVar 0))) (sSeq (sRet (eLc (itEnum (eVar 1)) (.tup [(.slot 4), (.slot 5)]) [3, 4, 5] (tEx (eOp2 fGt (eVar 5) (eCon (.int 0)))) (eCall 9 (esDef (esCons (eVar 2) (esCons (eVar 4) (esCons (eOp2 fSub (eVar 5) (eCon (.int 1))) esNil))) [])))) sNil))
noncomputable def f_below_none : FnD := ⟨2, 6, b_below_none, false⟩
/-- all_outside_above(many, lines) | found, line, kept, parts, later, .0, one, part, its -/
noncomputable def b_all_outside_above : Stm := (sSeq (sSet 2 (eLst (esCons (eOp2 fMul (eTup (esCons (eCon .non) esNil)) (eVar 0)) esNil))) (sSeq (sFor (itSeq (eVar 1)) (.slot 3) (sSeq (sPar 4 5 (eLc (itSeq (eVar 2)) (.slot 8) [7, 8] (PV.tNot (tEx (eCall 4 (esDef (esCons (eVar 3) (esCons (eVar 8) esNil)) [])))) (eVar 8)) (eCall 13 (esDef (esCons (eVar 0) (esCons (eVar 3) esNil)) []))) (sSeq (sSet 6 (eCall 8 (esDef (esCons (eLc2 (itSeq (eVar 2)) (.slot 8) [7, 8, 9] (tEx (eCall 4 (esDef (esCons (eVar 3) (esCons (eVar 8) esNil)) []))) (itSeq (eVar 5)) (.slot 9) [9] PV.tYes (eCall 11 (esDef (esCons (eVar 8) (esCons (eVar 9) esNil)) []))) esNil) []))) (sSeq (sSet 2 (eLst (esStar (eVar 4) (esStar (eLc (itSeq (eVar 6)) (.slot 8) [7, 8] (PV.tNot (tEx (eFn bAny (esCons (eLc (itSeq (eVar 4)) (.slot 10) [7, 10] PV.tYes (eCall 4 (esDef (esCons (eVar 8) (esCons (eVar 10) esNil)) []))) esNil)))) (eVar 8)) esNil)))) sNil)))) (sSeq (sRet (eCall 6 (esDef (esCons (eVar 2) esNil) []))) sNil)))
noncomputable def f_all_outside_above : FnD := ⟨2, 11, b_all_outside_above, false⟩
/-- outside_above(many, lines) |  -/
noncomputable def b_outside_above : Stm := (sSeq (sRet (eCall 12 (esDef (esCons (eCall 14 (esDef (esCons (eVar 0) (esCons (eVar 1) esNil)) [])) esNil) []))) sNil)
noncomputable def f_outside_above : FnD := ⟨2, 2, b_outside_above, false⟩
/-- above_all(many, line) | noughts, .0, at, value -/
noncomputable def b_above_all : Stm := (sSeq (sSet 2 (eOp2 fMul (eTup (esCons (eCon (.int 0)) esNil)) (eVar 0))) (sSeq (sRet (eLc (itEnum (eVar 1)) (.tup [(.slot 4), (.slot 5)]) [3, 4, 5] (tEx (eOp2 fIsn (eVar 5) (eCon .non))) (eCall 9 (esDef (esCons (eVar 2) (esCons (eVar 4) (esCons (eOp2 fAdd (eVar 5) (eCon (.int 1))) esNil))) [])))) sNil))
noncomputable def f_above_all : FnD := ⟨2, 6, b_above_all, false⟩
/-- outside_below(many, lines) | found, line, kept, parts, later, .0, one, part, its -/
noncomputable def b_outside_below : Stm := (sSeq (sSet 2 (eLst (esCons (eOp2 fMul (eTup (esCons (eCon (.int 0)) esNil)) (eVar 0)) esNil))) (sSeq (sFor (itSeq (eVar 1)) (.slot 3) (sSeq (sPar 4 5 (eLc (itSeq (eVar 2)) (.slot 8) [7, 8] (PV.tNot (tEx (eCall 4 (esDef (esCons (eVar 8) (esCons (eVar 3) esNil)) [])))) (eVar 8)) (eCall 16 (esDef (esCons (eVar 0) (esCons (eVar 3) esNil)) []))) (sSeq (sSet 6 (eCall 7 (esDef (esCons (eLc2 (itSeq (eVar 2)) (.slot 8) [7, 8, 9] (tEx (eCall 4 (esDef (esCons (eVar 8) (esCons (eVar 3) esNil)) []))) (itSeq (eVar 5)) (.slot 9) [9] PV.tYes (eCall 10 (esDef (esCons (eVar 8) (esCons (eVar 9) esNil)) []))) esNil) []))) (sSeq (sSet 2 (eLst (esStar (eVar 4) (esStar (eLc (itSeq (eVar 6)) (.slot 8) [7, 8] (PV.tNot (tEx (eFn bAny (esCons (eLc (itSeq (eVar 4)) (.slot 10) [7, 10] PV.tYes (eCall 4 (esDef (esCons (eVar 10) (esCons (eVar 8) esNil)) []))) esNil)))) (eVar 8)) esNil)))) sNil)))) (sSeq (sRet (eCall 12 (esDef (esCons (eCall 6 (esDef (esCons (eVar 2) esNil) [])) esNil) []))) sNil)))
noncomputable def f_outside_below : FnD := ⟨2, 11, b_outside_below, false⟩
/-- is_line(value, many, is_wide) | .0, one -/
noncomputable def b_is_line : Stm := (sSeq (sIf (PV.tNot (tEx (eCall 3 (esDef (esCons (eVar 0) (esCons (eVar 1) (esCons (eVar 1) esNil))) [])))) (sSeq (sRet (eCon (.bl false))) sNil) sNil) (sSeq (sRet (eFn bAll (esCons (eLc (itSeq (eVar 0)) (.slot 4) [3, 4] PV.tYes (eOr (eAnd (eVar 2) (eOp2 fIs (eVar 4) (eCon .non))) (eAnd (eCall 0 (esDef (esCons (eVar 4) esNil) [])) (eOp2 fGe (eVar 4) (eCon (.int 0)))))) esNil))) sNil))
noncomputable def f_is_line : FnD := ⟨3, 5, b_is_line, false⟩
/-- need_lines(value, many, is_wide) | .0, line -/
noncomputable def b_need_lines : Stm := (sSeq (sIf (PV.tNot (tEx (eCall 1 (esDef (esCons (eVar 1) (esCons (eCon (.int 1)) (esCons (eCon (.int 10)) esNil))) [])))) (sSeq sBad sNil) sNil) (sSeq (sIf (PV.tOr (PV.tNot (tEx (eCall 3 (esDef (esCons (eVar 0) (esCons (eCon (.int 0)) (esCons (eCon (.int 60)) esNil))) [])))) (PV.tNot (tEx (eFn bAll (esCons (eLc (itSeq (eVar 0)) (.slot 4) [3, 4] PV.tYes (eCall 18 (esDef (esCons (eVar 4) (esCons (eVar 1) (esCons (eVar 2) esNil))) []))) esNil))))) (sSeq sBad sNil) sNil) (sSeq (sRet (eLc (itSeq (eVar 0)) (.slot 4) [3, 4] PV.tYes (eFn bTuple (esCons (eVar 4) esNil)))) sNil)))
noncomputable def f_need_lines : FnD := ⟨3, 5, b_need_lines, false⟩
/-- greatest_outside(many, lines) |  -/
noncomputable def b_greatest_outside : Stm := (sSeq (sRet (eFn bTuple (esCons (eCall 15 (esDef (esCons (eVar 0) (esCons (eCall 19 (esDef (esCons (eVar 1) (esCons (eVar 0) (esCons (eCon (.bl false)) esNil))) [])) esNil)) [])) esNil))) sNil)
noncomputable def f_greatest_outside : FnD := ⟨2, 2, b_greatest_outside, false⟩
/-- least_outside(many, lines) |  -/
noncomputable def b_least_outside : Stm := (sSeq (sRet (eFn bTuple (esCons (eCall 17 (esDef (esCons (eVar 0) (esCons (eCall 19 (esDef (esCons (eVar 1) (esCons (eVar 0) (esCons (eCon (.bl true)) esNil))) [])) esNil)) [])) esNil))) sNil)
noncomputable def f_least_outside : FnD := ⟨2, 2, b_least_outside, false⟩
end PV
end
section
set_option linter.all false
/-! LT: terms of the law's defs, the table; printed by mk.py. -/
namespace PV.K31
/-- _law_pen(script) | .0, cell -/
noncomputable def b__law_pen : Stm := (sSeq (sRet (eNew (eLst (esCons (eLc (itSeq (eSl (eVar 0) none (some (eCon (.int 63))))) (.slot 2) [1, 2] PV.tYes (eFn bInt (esCons (eVar 2) esNil))) (esCons (eCon (.int 0)) (esCons (eCon (.int 0)) esNil)))))) sNil)
noncomputable def f__law_pen : FnD := ⟨1, 3, b__law_pen, true⟩
/-- _law_draw(pen, many) | rest, at, cell, mixed -/
noncomputable def b__law_draw : Stm := (sSeq (sIf (tEx (eOp2 fGt (eOp2 fIx (eVar 0) (eCon (.int 2))) (eCon (.int 0)))) (sSeq (sSet 2 (eFn bInt (esCons (eOp2 fIx (eVar 0) (eCon (.int 2))) esNil))) (sSeq (sSub (eVar 0) (eCon (.int 2)) (eOp2 fDiv (eVar 2) (eVar 1))) (sSeq (sRet (eOp2 fMod (eFn bInt (esCons (eVar 2) esNil)) (eVar 1))) sNil))) sNil) (sSeq (sSet 3 (eOp2 fIx (eVar 0) (eCon (.int 1)))) (sSeq (sSub (eVar 0) (eCon (.int 1)) (eOp2 fAdd (eVar 3) (eCon (.int 1)))) (sSeq (sSet 4 (eOp2 fAdd (eOp2 fMul (eCon (.int 72065)) (eVar 3)) (eCon (.int 9807)))) (sSeq (sIf (tEx (eOp2 fNe (eOp2 fIx (eVar 0) (eCon (.int 0))) (eLst esNil))) (sSeq (sSet 4 (eOp2 fIx (eOp2 fIx (eVar 0) (eCon (.int 0))) (eOp2 fMod (eFn bInt (esCons (eVar 3) esNil)) (eFn bLen (esCons (eOp2 fIx (eVar 0) (eCon (.int 0))) esNil))))) sNil) sNil) (sSeq (sIf (PV.tAnd (tEx (eOp2 fLt (eVar 3) (eFn bLen (esCons (eOp2 fIx (eVar 0) (eCon (.int 0))) esNil)))) (tEx (eOp2 fGe (eFn bAbs (esCons (eVar 4) esNil)) (eOp2 fPow (eCon (.int 10)) (eCon (.int 18)))))) (sSeq (sSet 2 (eOp2 fAdd (eOp2 fMul (eCon (.int 2)) (eOp2 fSub (eFn bAbs (esCons (eVar 4) esNil)) (eOp2 fPow (eCon (.int 10)) (eCon (.int 18))))) (eFn bInt (esCons (eOp2 fLt (eVar 4) (eCon (.int 0))) esNil)))) (sSeq (sSub (eVar 0) (eCon (.int 2)) (eOp2 fDiv (eFn bInt (esCons (eVar 2) esNil)) (eVar 1))) (sSeq (sRet (eOp2 fMod (eFn bInt (esCons (eVar 2) esNil)) (eVar 1))) sNil))) sNil) (sSeq (sSet 5 (eOp2 fMod (eFn bInt (esCons (eOp2 fPow (eOp2 fAdd (eOp2 fAdd (eOp2 fMod (eFn bInt (esCons (eVar 4) esNil)) (eCon (.int 2147483579))) (eOp2 fMul (eCon (.int 34811)) (eVar 3))) (eCon (.int 6783))) (eCon (.int 5))) esNil)) (eCon (.int 2147483587)))) (sSeq (sSet 5 (eOp2 fMod (eFn bInt (esCons (eOp2 fPow (eOp2 fAdd (eOp2 fAdd (eOp2 fMul (eVar 5) (eOp2 fAdd (eOp2 fMul (eCon (.int 2)) (eVar 3)) (eCon (.int 6783)))) (eOp2 fMul (eOp2 fMul (eCon (.int 34811)) (eVar 3)) (eVar 3))) (eCon (.int 72065))) (eCon (.int 3))) esNil)) (eCon (.int 2147483563)))) (sSeq (sRet (eOp2 fMod (eFn bInt (esCons (eOp2 fDiv (eVar 5) (eCon (.int 64))) esNil)) (eVar 1))) sNil)))))))))
noncomputable def f__law_draw : FnD := ⟨2, 6, b__law_draw, false⟩
/-- _law_pick(pen, some) |  -/
noncomputable def b__law_pick : Stm := (sSeq (sRet (eOp2 fIx (eVar 1) (eCall 23 (esDef (esCons (eVar 0) (esCons (eFn bLen (esCons (eVar 1) esNil)) esNil)) [])))) sNil)
noncomputable def f__law_pick : FnD := ⟨2, 2, b__law_pick, false⟩
/-- _law_b_below(one, other) | .0, value, its -/
noncomputable def b__law_b_below : Stm := (sSeq (sRet (eOp2 fEq (eLc (itZip2 (eVar 0) (eVar 1)) (.tup [(.slot 3), (.slot 4)]) [2, 3, 4] (PV.tAnd (tEx (eOp2 fIsn (eVar 4) (eCon .non))) (PV.tOr (tEx (eOp2 fIs (eVar 3) (eCon .non))) (tEx (eOp2 fGt (eVar 3) (eVar 4))))) (eCon (.int 1))) (eLst esNil))) sNil)
noncomputable def f__law_b_below : FnD := ⟨2, 5, b__law_b_below, false⟩
/-- _law_b_key(line) | .0, value -/
noncomputable def b__law_b_key : Stm := (sSeq (sRet (eLc (itSeq (eVar 0)) (.slot 2) [1, 2] PV.tYes (eTup (esCons (eFn bInt (esCons (eOp2 fIs (eVar 2) (eCon .non)) esNil)) (esCons (eIf (tEx (eOp2 fIs (eVar 2) (eCon .non))) (eCon (.int 0)) (eVar 2)) esNil))))) sNil)
noncomputable def f__law_b_key : FnD := ⟨1, 3, b__law_b_key, false⟩
/-- _law_b_sorted(lines) |  -/
noncomputable def b__law_b_sorted : Stm := (sSeq (sRet (eSortK 26 (eVar 0))) sNil)
noncomputable def f__law_b_sorted : FnD := ⟨1, 1, b__law_b_sorted, false⟩
/-- _law_b_least(lines) | some, .0, line, one -/
noncomputable def b__law_b_least : Stm := (sSeq (sSet 1 (eCall 27 (esDef (esCons (eFn bListD (esCons (eFn bDict (esCons (eLc (itSeq (eVar 0)) (.slot 3) [2, 3] PV.tYes (eTup (esCons (eVar 3) (esCons (eCon (.bl true)) esNil)))) esNil)) esNil)) esNil) []))) (sSeq (sRet (eLc (itSeq (eVar 1)) (.slot 3) [2, 3] (tEx (eOp2 fEq (eLc (itSeq (eVar 1)) (.slot 4) [2, 4] (PV.tAnd (tEx (eOp2 fNe (eVar 4) (eVar 3))) (tEx (eCall 25 (esDef (esCons (eVar 4) (esCons (eVar 3) esNil)) [])))) (eVar 4)) (eLst esNil))) (eVar 3))) sNil))
noncomputable def f__law_b_least : FnD := ⟨1, 5, b__law_b_least, false⟩
/-- _law_b_greatest(lines) | some, .0, line, one -/
noncomputable def b__law_b_greatest : Stm := (sSeq (sSet 1 (eCall 27 (esDef (esCons (eFn bListD (esCons (eFn bDict (esCons (eLc (itSeq (eVar 0)) (.slot 3) [2, 3] PV.tYes (eTup (esCons (eVar 3) (esCons (eCon (.bl true)) esNil)))) esNil)) esNil)) esNil) []))) (sSeq (sRet (eLc (itSeq (eVar 1)) (.slot 3) [2, 3] (tEx (eOp2 fEq (eLc (itSeq (eVar 1)) (.slot 4) [2, 4] (PV.tAnd (tEx (eOp2 fNe (eVar 4) (eVar 3))) (tEx (eCall 25 (esDef (esCons (eVar 3) (esCons (eVar 4) esNil)) [])))) (eVar 4)) (eLst esNil))) (eVar 3))) sNil))
noncomputable def f__law_b_greatest : FnD := ⟨1, 5, b__law_b_greatest, false⟩
/-- _law_b_lines(pen, wide, least, greatest) | rows, many, at, some, row, found, .0, line, lap, value -/
noncomputable def b__law_b_lines : Stm := (sSeq (sPar 4 5 (eNew (eLst esNil)) (eCon (.int 1))) (sSeq (sFor (itRng1 (eVar 1)) (.slot 6) (sSeq (sSet 7 (eOp2 fAdd (eLc (itSeq (eVar 2)) (.slot 11) [10, 11] PV.tYes (eOp2 fIx (eVar 11) (eVar 6))) (eLc (itSeq (eVar 3)) (.slot 11) [10, 11] (tEx (eOp2 fIsn (eOp2 fIx (eVar 11) (eVar 6)) (eCon .non))) (eOp2 fAdd (eOp2 fIx (eVar 11) (eVar 6)) (eCon (.int 1)))))) (sSeq (sEx (eMut mAppend (eVar 4) (esCons (eOp1 fSortSet (eOp2 fAdd (eLst (esCons (eCon (.int 0)) esNil)) (eVar 7))) esNil))) (sSeq (sSet 5 (eOp2 fMul (eVar 5) (eFn bLen (esCons (eOp2 fIx (eVar 4) (eOp1 fNeg (eCon (.int 1)))) esNil)))) sNil)))) (sSeq (sIf (tEx (eOp2 fGt (eVar 5) (eCon (.int 5000)))) (sSeq (sRet (eLc (itRng1 (eCon (.int 900))) (.slot 12) [10, 12] PV.tYes (eFn bTuple (esCons (eLc (itSeq (eVar 4)) (.slot 8) [10, 8] PV.tYes (eCall 24 (esDef (esCons (eVar 0) (esCons (eVar 8) esNil)) []))) esNil)))) sNil) sNil) (sSeq (sSet 9 (eLst (esCons (eTup esNil) esNil))) (sSeq (sFor (itSeq (eVar 4)) (.slot 8) (sSeq (sSet 9 (eSumL (eLc (itSeq (eVar 8)) (.slot 13) [10, 13] PV.tYes (eLc (itSeq (eVar 9)) (.slot 11) [10, 11] PV.tYes (eOp2 fAdd (eVar 11) (eTup (esCons (eVar 13) esNil))))) (eLst esNil))) sNil)) (sSeq (sRet (eVar 9)) sNil))))))
noncomputable def f__law_b_lines : FnD := ⟨4, 14, b__law_b_lines, false⟩
/-- _law_b_parted(pen, wide, least, greatest) | line, above, below, .0, one -/
noncomputable def b__law_b_parted : Stm := (sSeq (sFor (itSeq (eCall 30 (esDef (esCons (eVar 0) (esCons (eVar 1) (esCons (eVar 2) (esCons (eVar 3) esNil)))) []))) (.slot 4) (sSeq (sPar 5 6 (eOp2 fNe (eLc (itSeq (eVar 2)) (.slot 8) [7, 8] (tEx (eCall 25 (esDef (esCons (eVar 8) (esCons (eVar 4) esNil)) []))) (eCon (.int 1))) (eLst esNil)) (eOp2 fNe (eLc (itSeq (eVar 3)) (.slot 8) [7, 8] (tEx (eCall 25 (esDef (esCons (eVar 4) (esCons (eVar 8) esNil)) []))) (eCon (.int 1))) (eLst esNil))) (sSeq (sIf (tEx (eOp2 fEq (eVar 5) (eVar 6))) (sSeq (sRet (eCon (.bl false))) sNil) sNil) sNil))) (sSeq (sRet (eAnd (eOp2 fEq (eCall 28 (esDef (esCons (eVar 2) esNil) [])) (eCall 27 (esDef (esCons (eVar 2) esNil) []))) (eOp2 fEq (eCall 29 (esDef (esCons (eVar 3) esNil) [])) (eCall 27 (esDef (esCons (eVar 3) esNil) []))))) sNil))
noncomputable def f__law_b_parted : FnD := ⟨4, 9, b__law_b_parted, false⟩
/-- law(script) | pen, turn, wide, most, lines, least, told, ideals, greatest, low, .0, lap, at, line -/
noncomputable def b_law : Stm := (sSeq (sSet 1 (eCall 22 (esDef (esCons (eVar 0) esNil) []))) (sSeq (sFor (itRng1 (eCon (.int 8))) (.slot 2) (sSeq (sPar 3 4 (eCall 24 (esDef (esCons (eVar 1) (esCons (eLst (esCons (eCon (.int 1)) (esCons (eCon (.int 2)) (esCons (eCon (.int 2)) (esCons (eCon (.int 3)) (esCons (eCon (.int 3)) (esCons (eCon (.int 4)) esNil))))))) esNil)) [])) (eCall 24 (esDef (esCons (eVar 1) (esCons (eLst (esCons (eCon (.int 1)) (esCons (eCon (.int 2)) (esCons (eCon (.int 3)) (esCons (eCon (.int 4)) (esCons (eCon (.int 6)) esNil)))))) esNil)) []))) (sSeq (sSet 5 (eLc (itRng1 (eCall 23 (esDef (esCons (eVar 1) (esCons (eCon (.int 7)) esNil)) []))) (.slot 12) [11, 12] PV.tYes (eFn bTuple (esCons (eLc (itRng1 (eVar 3)) (.slot 13) [11, 13] PV.tYes (eCall 23 (esDef (esCons (eVar 1) (esCons (eOp2 fAdd (eVar 4) (eCon (.int 1))) esNil)) []))) esNil)))) (sSeq (sSet 6 (eCall 28 (esDef (esCons (eVar 5) esNil) []))) (sSeq (sSet 7 (eCall 20 (esDef (esCons (eVar 3) (esCons (eVar 5) esNil)) []))) (sSeq (sIf (PV.tOr (tEx (eOp2 fNe (eFn bListD (esCons (eVar 7) esNil)) (eCall 27 (esDef (esCons (eVar 7) esNil) [])))) (PV.tOr (PV.tNot (tEx (eCall 31 (esDef (esCons (eVar 1) (esCons (eVar 3) (esCons (eVar 6) (esCons (eVar 7) esNil)))) [])))) (tEx (eOp2 fNe (eCall 21 (esDef (esCons (eVar 3) (esCons (eVar 7) esNil)) [])) (eFn bTuple (esCons (eVar 6) esNil)))))) (sSeq (sRet (eCon (.bl false))) sNil) sNil) (sSeq (sSet 8 (eLc (itRng1 (eCall 23 (esDef (esCons (eVar 1) (esCons (eCon (.int 6)) esNil)) []))) (.slot 12) [11, 12] PV.tYes (eFn bTuple (esCons (eLc (itRng1 (eVar 3)) (.slot 13) [11, 13] PV.tYes (eIf (tEx (eOp2 fEq (eCall 23 (esDef (esCons (eVar 1) (esCons (eCon (.int 3)) esNil)) [])) (eCon (.int 0)))) (eCon .non) (eCall 23 (esDef (esCons (eVar 1) (esCons (eOp2 fAdd (eVar 4) (eCon (.int 1))) esNil)) [])))) esNil)))) (sSeq (sSet 9 (eCall 29 (esDef (esCons (eVar 8) esNil) []))) (sSeq (sSet 10 (eCallK 21 [0, 1] esNil (esCons (eVar 3) (esCons (eLc (itSeq (eVar 8)) (.slot 14) [11, 14] PV.tYes (eFn bListD (esCons (eVar 14) esNil))) esNil)))) (sSeq (sIf (PV.tOr (tEx (eOp2 fNe (eFn bListD (esCons (eVar 10) esNil)) (eFn bSortedC (esCons (eVar 10) esNil)))) (PV.tOr (PV.tNot (tEx (eCall 31 (esDef (esCons (eVar 1) (esCons (eVar 3) (esCons (eVar 10) (esCons (eVar 9) esNil)))) [])))) (tEx (eOp2 fNe (eCallK 20 [1, 0] esNil (esCons (eVar 10) (esCons (eVar 3) esNil))) (eFn bTuple (esCons (eVar 9) esNil)))))) (sSeq (sRet (eCon (.bl false))) sNil) sNil) sNil)))))))))) (sSeq (sIf (PV.tOr (tEx (eOp2 fNe (eCall 20 (esDef (esCons (eCon (.int 3)) (esCons (eLst esNil) esNil)) [])) (eTup (esCons (eOp2 fMul (eTup (esCons (eCon .non) esNil)) (eCon (.int 3))) esNil)))) (PV.tOr (tEx (eOp2 fNe (eCall 20 (esDef (esCons (eCon (.int 2)) (esCons (eLst (esCons (eTup (esCons (eCon (.int 0)) (esCons (eCon (.int 0)) esNil))) (esCons (eTup (esCons (eCon (.int 1)) (esCons (eCon (.int 5)) esNil))) esNil))) esNil)) [])) (eTup esNil))) (tEx (eOp2 fNe (eCall 21 (esDef (esCons (eCon (.int 2)) (esCons (eLst esNil) esNil)) [])) (eTup (esCons (eTup (esCons (eCon (.int 0)) (esCons (eCon (.int 0)) esNil))) esNil)))))) (sSeq (sRet (eCon (.bl false))) sNil) sNil) (sSeq (sRet (eAnd (eOp2 fEq (eCall 21 (esDef (esCons (eCon (.int 2)) (esCons (eLst (esCons (eTup (esCons (eCon .non) (esCons (eCon .non) esNil))) (esCons (eTup (esCons (eCon (.int 0)) (esCons (eCon (.int 1)) esNil))) esNil))) esNil)) [])) (eTup esNil)) (eOp2 fEq (eCall 21 (esDef (esCons (eCon (.int 1)) (esCons (eLst (esCons (eTup (esCons (eOp2 fPow (eCon (.int 10)) (eCon (.int 30))) esNil)) esNil)) esNil)) [])) (eTup (esCons (eTup (esCons (eOp2 fAdd (eOp2 fPow (eCon (.int 10)) (eCon (.int 30))) (eCon (.int 1))) esNil)) esNil))))) sNil))))
noncomputable def f_law : FnD := ⟨1, 15, b_law, false⟩
noncomputable def T (isi : List A → Option A) : Nat → Option FnD
  | 0 => some (f_is_integer isi)
  | 1 => some f_is_within
  | 2 => some (f_is_listed isi)
  | 3 => some f_is_row
  | 4 => some f_is_no_greater
  | 5 => some f_order_of
  | 6 => some f_ordered
  | 7 => some f_least_among
  | 8 => some f_greatest_among
  | 9 => some f_with_entry
  | 10 => some f_joined
  | 11 => some f_met
  | 12 => some f_let_lines
  | 13 => some f_below_none
  | 14 => some f_all_outside_above
  | 15 => some f_outside_above
  | 16 => some f_above_all
  | 17 => some f_outside_below
  | 18 => some f_is_line
  | 19 => some f_need_lines
  | 20 => some f_greatest_outside
  | 21 => some f_least_outside
  | 22 => some f__law_pen
  | 23 => some f__law_draw
  | 24 => some f__law_pick
  | 25 => some f__law_b_below
  | 26 => some f__law_b_key
  | 27 => some f__law_b_sorted
  | 28 => some f__law_b_least
  | 29 => some f__law_b_greatest
  | 30 => some f__law_b_lines
  | 31 => some f__law_b_parted
  | 32 => some f_law
  | _ => none
end PV.K31
end
section
set_option linter.all false
set_option Elab.async false
/-! PL0: reckoning with the plain side. -/
namespace PV
/-! ### comprehensions -/
theorem lcGo_pure {O : Orc} {tg : Tg} {t : Te} {x : Ex} {e : Env} {ok : Sto → Bool} {st : Sto} (hok : ok st = true) (p : A → Bool) (f : A → A) :
    ∀ l : List A, (∀ a ∈ l, ∃ e1, tg.put a e = some e1 ∧ t O e1 st = .ok (p a) st ∧ (p a = true → x O e1 st = .ok (.v (f a)) st)) →
      lcGo O tg t x e ok l st = .ok ((l.filter p).map f) st
  | [], _ => rfl
  | a :: l, h => by
    obtain ⟨e1, h1, h2, h3⟩ := h a List.mem_cons_self
    have ih := lcGo_pure hok p f l fun b hb => h b (List.mem_cons_of_mem _ hb)
    unfold lcGo
    simp only [h1, h2, bind_ok]
    cases hp : p a with
    | false => simp only [Bool.false_eq_true, if_false, hok, if_true, ih, List.filter_cons, hp]
    | true => simp only [if_true, h3 hp, bind_ok, PV.W.val, of_some, hok, ih, List.filter_cons, hp, List.map_cons]
/-- the items are the images of some list -/
theorem lcGo_map {α : Type} {O : Orc} {tg : Tg} {t : Te} {x : Ex} {e : Env} {ok : Sto → Bool} {st : Sto} (hok : ok st = true) (g : α → A) (p : α → Bool) (f : α → A) :
    ∀ l : List α, (∀ a ∈ l, ∃ e1, tg.put (g a) e = some e1 ∧ t O e1 st = .ok (p a) st ∧ (p a = true → x O e1 st = .ok (.v (f a)) st)) →
      lcGo O tg t x e ok (l.map g) st = .ok ((l.filter p).map f) st
  | [], _ => rfl
  | a :: l, h => by
    obtain ⟨e1, h1, h2, h3⟩ := h a List.mem_cons_self
    have ih := lcGo_map hok g p f l fun b hb => h b (List.mem_cons_of_mem _ hb)
    rw [List.map_cons]
    unfold lcGo
    simp only [h1, h2, bind_ok]
    cases hp : p a with
    | false => simp only [Bool.false_eq_true, if_false, hok, if_true, ih, List.filter_cons, hp]
    | true => simp only [if_true, h3 hp, bind_ok, PV.W.val, of_some, hok, ih, List.filter_cons, hp, List.map_cons]
theorem lcGo_yes {α : Type} {O : Orc} {tg : Tg} {x : Ex} {e : Env} {ok : Sto → Bool} {st : Sto} (hok : ok st = true) (g : α → A) (f : α → A)
    (l : List α) (h : ∀ a ∈ l, ∃ e1, tg.put (g a) e = some e1 ∧ x O e1 st = .ok (.v (f a)) st) :
      lcGo O tg tYes x e ok (l.map g) st = .ok (l.map f) st := by
  have := lcGo_map (O := O) (tg := tg) (t := tYes) (x := x) (e := e) hok g (fun _ => true) f l fun a ha => by
    obtain ⟨e1, h1, h2⟩ := h a ha
    exact ⟨e1, h1, rfl, fun _ => h2⟩
  rw [this]; congr 2; exact List.filter_eq_self.mpr fun _ _ => rfl
/-- an element is drawn, a turn at a time -/
theorem lcGo_inv {α : Type} {O : Orc} {tg : Tg} {t : Te} {x : Ex} {e : Env} {ok : Sto → Bool} (I : Nat → Sto → Prop) (g : α → A) (R : α → Option A → Prop) :
    ∀ (l : List α) (n : Nat) (st : Sto), I n st → (∀ a ∈ l, ∀ n st, I n st → ∃ e1, tg.put (g a) e = some e1 ∧
      ((∃ st1, t O e1 st = .ok false st1 ∧ ok st1 = true ∧ I (n + 1) st1 ∧ R a none) ∨ ∃ st1 y st2, t O e1 st = .ok true st1 ∧ x O e1 st1 = .ok (.v y) st2 ∧ ok st2 = true ∧ I (n + 1) st2 ∧ R a (some y))) →
      ∃ ys st1, lcGo O tg t x e ok (l.map g) st = .ok (ys.filterMap id) st1 ∧ I (n + l.length) st1 ∧ ys.length = l.length ∧ ∀ p ∈ l.zip ys, R p.1 p.2
  | [], n, st, hI, _ => ⟨[], st, rfl, hI, rfl, fun _ h => nomatch h⟩
  | a :: l, n, st, hI, h => by
    obtain ⟨e1, h1, h2⟩ := h a List.mem_cons_self n st hI
    rw [List.map_cons]
    unfold lcGo
    simp only [h1]
    rcases h2 with ⟨st1, h2, h3, h4, h5⟩ | ⟨st1, y, st2, h2, h3, h4, h5, h6⟩
    · obtain ⟨ys, st3, q1, q2, q3, q4⟩ := lcGo_inv I g R l (n + 1) st1 h4 fun b hb => h b (List.mem_cons_of_mem _ hb)
      refine ⟨none :: ys, st3, ?_, by rw [List.length_cons]; rw [show n + (l.length + 1) = n + 1 + l.length by omega]; exact q2, by simp [q3], fun p hp => ?_⟩
      · simp only [h2, bind_ok, Bool.false_eq_true, if_false, h3, if_true, q1, List.filterMap_cons, id]
      · rcases List.mem_cons.mp hp with e | e
        · subst e; exact h5
        · exact q4 p e
    · obtain ⟨ys, st3, q1, q2, q3, q4⟩ := lcGo_inv I g R l (n + 1) st2 h5 fun b hb => h b (List.mem_cons_of_mem _ hb)
      refine ⟨some y :: ys, st3, ?_, by rw [List.length_cons]; rw [show n + (l.length + 1) = n + 1 + l.length by omega]; exact q2, by simp [q3], fun p hp => ?_⟩
      · simp only [h2, bind_ok, if_true, h3, PV.W.val, of_some, h4, q1, List.filterMap_cons, id]
      · rcases List.mem_cons.mp hp with e | e
        · subst e; exact h6
        · exact q4 p e
/-- each turn gives an element, by a state that goes on -/
theorem lcGo_draw {α : Type} {O : Orc} {tg : Tg} {x : Ex} {e : Env} {ok : Sto → Bool} (I : Nat → Sto → Prop) (g : α → A) (R : α → A → Prop) :
    ∀ (l : List α) (n : Nat) (st : Sto), I n st → (∀ a ∈ l, ∀ n st, I n st → ∃ e1 y st2, tg.put (g a) e = some e1 ∧ x O e1 st = .ok (.v y) st2 ∧ ok st2 = true ∧ I (n + 1) st2 ∧ R a y) →
      ∃ ys st1, lcGo O tg tYes x e ok (l.map g) st = .ok ys st1 ∧ I (n + l.length) st1 ∧ ys.length = l.length ∧ ∀ p ∈ l.zip ys, R p.1 p.2
  | [], n, st, hI, _ => ⟨[], st, rfl, hI, rfl, fun _ h => nomatch h⟩
  | a :: l, n, st, hI, h => by
    obtain ⟨e1, y, st2, h1, h3, h4, h5, h6⟩ := h a List.mem_cons_self n st hI
    rw [List.map_cons]
    unfold lcGo
    obtain ⟨ys, st3, q1, q2, q3, q4⟩ := lcGo_draw I g R l (n + 1) st2 h5 fun b hb => h b (List.mem_cons_of_mem _ hb)
    refine ⟨y :: ys, st3, ?_, by rw [List.length_cons]; rw [show n + (l.length + 1) = n + 1 + l.length by omega]; exact q2, by simp [q3], fun p hp => ?_⟩
    · simp only [h1, tYes, bind_ok, if_true, h3, PV.W.val, of_some, h4, q1]
    · rcases List.mem_cons.mp hp with e | e
      · subst e; exact h6
      · exact q4 p e
/-! ### loops -/
/-- a loop whose turns all go on, by an invariant -/
theorem forGo_inv {α : Type} {O : Orc} {tg : Tg} {body : Stm} {ok : Sto → Bool} (g : α → A) :
    ∀ (l : List α) (I : List α → Env → Sto → Prop) (e : Env) (st : Sto), I l e st →
      (∀ a r e st, I (a :: r) e st → ∃ e1 e2 st2, tg.put (g a) e = some e1 ∧ body O e1 st = .nx e2 st2 ∧ ok st2 = true ∧ I r e2 st2) →
      ∃ e1 st1, forGo O tg body ok (l.map g) e st = .nx e1 st1 ∧ I [] e1 st1
  | [], I, e, st, h, _ => ⟨e, st, rfl, h⟩
  | a :: l, I, e, st, h, hs => by
    obtain ⟨e1, e2, st2, h1, h2, h3, h4⟩ := hs a l e st h
    obtain ⟨e3, st3, q1, q2⟩ := forGo_inv (O := O) (tg := tg) (body := body) (ok := ok) g l I e2 st2 h4 hs
    refine ⟨e3, st3, ?_, q2⟩
    rw [List.map_cons]
    unfold forGo
    simp only [h1, h2, h3, if_true, q1]
end PV
end
section
set_option linter.all false
set_option Elab.async false
/-! PL1: operators on what is known. -/
namespace PV
/-! ### order of ints -/
theorem lexS_int (i j : Int) : lexS [.inl i] [.inl j] = decide (i < j) := by
  simp [lexS, itLt]
@[simp] theorem lt_int_L (i j : Int) : A.lt (.int i) (.int j) = decide (i < j) := lexS_int i j
theorem flat_int (i : Int) : flat (.int i) = true := rfl
theorem flat_bl (i : Bool) : flat (.bl i) = true := rfl
theorem flat_non : flat .non = true := rfl
theorem ordd_int (i j : Int) : ordd (.int i) (.int j) = true := rfl
@[simp] theorem fLt_int (i j : Int) : fLt (.int i) (.int j) = some (.bl (decide (i < j))) := by simp [fLt, ordd_int]
@[simp] theorem fGt_int (i j : Int) : fGt (.int i) (.int j) = some (.bl (decide (i > j))) := by simp [fGt, ordd_int]
@[simp] theorem fLe_int (i j : Int) : fLe (.int i) (.int j) = some (.bl (decide (i ≤ j))) := by
  simp only [fLe, ordd_int, lt_int_L, if_true, Option.some.injEq, A.bl.injEq]
  by_cases h : i ≤ j
  · rw [decide_eq_true h, decide_eq_false (by omega)]; rfl
  · rw [decide_eq_false h, decide_eq_true (by omega)]; rfl
@[simp] theorem fGe_int (i j : Int) : fGe (.int i) (.int j) = some (.bl (decide (i ≥ j))) := by
  simp only [fGe, ordd_int, lt_int_L, if_true, Option.some.injEq, A.bl.injEq]
  by_cases h : i ≥ j
  · rw [decide_eq_true h, decide_eq_false (by omega)]; rfl
  · rw [decide_eq_false h, decide_eq_true (by omega)]; rfl
@[simp] theorem fEq_int (i j : Int) : fEq (.int i) (.int j) = some (.bl (i == j)) := rfl
@[simp] theorem fNe_int (i j : Int) : fNe (.int i) (.int j) = some (.bl (!(i == j))) := rfl
@[simp] theorem fIs_non (a : A) : fIs a .non = some (.bl (A.same a .non)) := rfl
@[simp] theorem fIsn_non (a : A) : fIsn a .non = some (.bl (!A.same a .non)) := rfl
@[simp] theorem fAdd_int (i j : Int) : fAdd (.int i) (.int j) = some (.int (i + j)) := rfl
@[simp] theorem fSub_int (i j : Int) : fSub (.int i) (.int j) = some (.int (i - j)) := rfl
/-! ### tests -/
@[simp] theorem boolW_bl (k : Bool) (st : Sto) : boolW (.v (.bl k)) st = .ok k st := rfl
@[simp] theorem truthW_bl (k : Bool) (st : Sto) : truthW (.v (.bl k)) st = .ok k st := rfl
@[simp] theorem op1_v (f : A → Option A) (a : A) (st : Sto) : op1 f (.v a) st = ofV (f a) st := rfl
@[simp] theorem op2_v (f : A → A → Option A) (a b : A) (st : Sto) : op2 f (.v a) (.v b) st = ofV (f a b) st := rfl
@[simp] theorem opL_1 (f : List A → Option A) (a : A) (st : Sto) : opL f [.v a] st = ofV (f [a]) st := rfl
@[simp] theorem opL_2 (f : List A → Option A) (a b : A) (st : Sto) : opL f [.v a, .v b] st = ofV (f [a, b]) st := rfl
@[simp] theorem eVar_eq (i : Nat) (O : Orc) (e : Env) (st : Sto) : eVar i O e st = match e[i]? with
  | some (some a) => .ok a st
  | _ => .bad := rfl
@[simp] theorem eCon_eq (a : A) (O : Orc) (e : Env) (st : Sto) : eCon a O e st = .ok (.v a) st := rfl
@[simp] theorem eOp1_eq (f) (x : Ex) (O : Orc) (e : Env) (st : Sto) : eOp1 f x O e st = (x O e st).bind fun w st1 => op1 f w st1 := rfl
@[simp] theorem eOp2_eq (f) (x y : Ex) (O : Orc) (e : Env) (st : Sto) : eOp2 f x y O e st = (x O e st).bind fun w st1 => (y O e st1).bind fun u st2 => op2 f w u st2 := rfl
@[simp] theorem esNil_eq (O : Orc) (e : Env) (st : Sto) : esNil O e st = .ok [] st := rfl
@[simp] theorem esCons_eq (x : Ex) (xs : Es) (O : Orc) (e : Env) (st : Sto) : esCons x xs O e st = (x O e st).bind fun a st1 => (xs O e st1).bind fun l st2 => .ok (a :: l) st2 := rfl
@[simp] theorem esStar_eq (x : Ex) (xs : Es) (O : Orc) (e : Env) (st : Sto) : esStar x xs O e st = (x O e st).bind fun w st1 => (Res.of ((vw st1 w).bind A.seq) st1).bind fun m st2 => (xs O e st2).bind fun l st3 => .ok (m.map W.v ++ l) st3 := rfl
@[simp] theorem esDef_eq (xs : Es) (ds) (O : Orc) (e : Env) (st : Sto) : esDef xs ds O e st = (xs O e st).bind fun l st1 => .ok (l ++ ds.map W.v) st1 := rfl
@[simp] theorem eTup_eq (xs : Es) (O : Orc) (e : Env) (st : Sto) : eTup xs O e st = (xs O e st).bind fun l st1 => disp .tup l st1 := rfl
@[simp] theorem eLst_eq (xs : Es) (O : Orc) (e : Env) (st : Sto) : eLst xs O e st = (xs O e st).bind fun l st1 => disp .lst l st1 := rfl
@[simp] theorem eFn_eq (f) (xs : Es) (O : Orc) (e : Env) (st : Sto) : eFn f xs O e st = (xs O e st).bind fun l st1 => opL f l st1 := rfl
@[simp] theorem eCall_eq (f : Nat) (xs : Es) (O : Orc) (e : Env) (st : Sto) : eCall f xs O e st = (xs O e st).bind fun l st1 => O f l st1 := rfl
@[simp] theorem eCallK_eq (f : Nat) (perm) (xs ks : Es) (O : Orc) (e : Env) (st : Sto) : eCallK f perm xs ks O e st = (xs O e st).bind fun l st1 => (ks O e st1).bind fun m st2 => O f (selF perm (l ++ m)) st2 := rfl
@[simp] theorem eIf_eq (t : Te) (x y : Ex) (O : Orc) (e : Env) (st : Sto) : eIf t x y O e st = (t O e st).bind fun b st1 => if b then x O e st1 else y O e st1 := rfl
@[simp] theorem eAnd_eq (x y : Ex) (O : Orc) (e : Env) (st : Sto) : eAnd x y O e st = (x O e st).bind fun a st1 => (truthW a st1).bind fun b st2 => if b then y O e st2 else .ok a st2 := rfl
@[simp] theorem eOr_eq (x y : Ex) (O : Orc) (e : Env) (st : Sto) : eOr x y O e st = (x O e st).bind fun a st1 => (truthW a st1).bind fun b st2 => if b then .ok a st2 else y O e st2 := rfl
@[simp] theorem eNot_eq (t : Ex) (O : Orc) (e : Env) (st : Sto) : eNot t O e st = (t O e st).bind fun w st1 => (truthW w st1).bind fun b st2 => .ok (.v (.bl (!b))) st2 := rfl
@[simp] theorem tEx_eq (x : Ex) (O : Orc) (e : Env) (st : Sto) : tEx x O e st = (x O e st).bind fun a st1 => truthW a st1 := rfl
@[simp] theorem tAnd_eq (x y : Te) (O : Orc) (e : Env) (st : Sto) : tAnd x y O e st = (x O e st).bind fun b st1 => if b then y O e st1 else .ok false st1 := rfl
@[simp] theorem tOr_eq (x y : Te) (O : Orc) (e : Env) (st : Sto) : tOr x y O e st = (x O e st).bind fun b st1 => if b then .ok true st1 else y O e st1 := rfl
@[simp] theorem tNot_eq (x : Te) (O : Orc) (e : Env) (st : Sto) : tNot x O e st = (x O e st).bind fun b st1 => .ok (!b) st1 := rfl
@[simp] theorem tYes_eq (O : Orc) (e : Env) (st : Sto) : tYes O e st = .ok true st := rfl
@[simp] theorem tChain_eq (f g) (x y z : Ex) (O : Orc) (e : Env) (st : Sto) : tChain f g x y z O e st = (x O e st).bind fun a st1 => (y O e st1).bind fun b st2 => (op2 f a b st2).bind fun r st3 => (boolW r st3).bind fun k st4 =>
  if k then (z O e st4).bind fun c st5 => (op2 g b c st5).bind boolW else .ok false st4 := rfl
@[simp] theorem eTest_eq (t : Te) (O : Orc) (e : Env) (st : Sto) : eTest t O e st = (t O e st).bind fun k st1 => .ok (.v (.bl k)) st1 := rfl
@[simp] theorem eLc_eq (it : It) (tg own t x) (O : Orc) (e : Env) (st : Sto) : eLc it tg own t x O e st = (it O e st).bind fun p st1 => if p.2 st1 then (lcGo O tg t x (wipe e own) p.2 p.1 st1).quiet.bind fun ys st2 => .ok (.v (.lst ys)) st2 else .bad := rfl
@[simp] theorem eSl_eq (x : Ex) (lo hi) (O : Orc) (e : Env) (st : Sto) : eSl x lo hi O e st = (x O e st).bind fun w st1 => (partO lo O e st1).bind fun l st2 => (partO hi O e st2).bind fun h st3 => ofV ((vw st3 w).bind fun a => fSl a l h) st3 := rfl
@[simp] theorem partO_none (O : Orc) (e : Env) (st : Sto) : partO none O e st = .ok none st := rfl
@[simp] theorem partO_some (x : Ex) (O : Orc) (e : Env) (st : Sto) : partO (some x) O e st = (x O e st).bind fun w st1 => match w with
    | .v (.int i) => .ok (some i) st1
    | _ => .bad := rfl
@[simp] theorem itSeq_eq (x : Ex) (O : Orc) (e : Env) (st : Sto) : itSeq x O e st = (x O e st).bind fun w st1 => itms (src st1 w) st1 := rfl
@[simp] theorem itZip2_eq (x y : Ex) (O : Orc) (e : Env) (st : Sto) : itZip2 x y O e st = (x O e st).bind fun w st1 => (y O e st1).bind fun u st2 => itms (zips2 w u st2) st2 := rfl
@[simp] theorem itEnum_eq (x : Ex) (O : Orc) (e : Env) (st : Sto) : itEnum x O e st = (x O e st).bind fun w st1 => itms (enums w st1) st1 := rfl
@[simp] theorem itRng1_eq (x : Ex) (O : Orc) (e : Env) (st : Sto) : itRng1 x O e st = (x O e st).bind fun w st1 => itms (rng1 w st1) st1 := rfl
/-! ### statements -/
@[simp] theorem sNil_eq (O : Orc) (e : Env) (st : Sto) : sNil O e st = .nx e st := rfl
@[simp] theorem sSeq_eq (a b : Stm) (O : Orc) (e : Env) (st : Sto) : sSeq a b O e st = (a O e st).seq (b O) := rfl
@[simp] theorem sRet_eq (x : Ex) (O : Orc) (e : Env) (st : Sto) : sRet x O e st = (x O e st).to e fun a st1 => .rt a st1 := rfl
@[simp] theorem sEx_eq (x : Ex) (O : Orc) (e : Env) (st : Sto) : sEx x O e st = (x O e st).to e fun _ st1 => .nx e st1 := rfl
@[simp] theorem sSet_eq (i : Nat) (x : Ex) (O : Orc) (e : Env) (st : Sto) : sSet i x O e st = (x O e st).to e fun w st1 => .nx (e.set i (some w)) st1 := rfl
@[simp] theorem sIf_eq (t : Te) (a b : Stm) (O : Orc) (e : Env) (st : Sto) : sIf t a b O e st = (t O e st).to e fun k st1 => if k then a O e st1 else b O e st1 := rfl
@[simp] theorem sPar_eq (i j : Nat) (x y : Ex) (O : Orc) (e : Env) (st : Sto) : sPar i j x y O e st = (x O e st).to e fun a st1 => (y O e st1).to e fun b st2 => .nx ((e.set i (some a)).set j (some b)) st2 := rfl
@[simp] theorem sFor_eq (it : It) (tg body) (O : Orc) (e : Env) (st : Sto) : sFor it tg body O e st = (it O e st).to e fun p st1 => if p.2 st1 then forGo O tg body p.2 p.1 e st1 else .bad := rfl
@[simp] theorem eNew_eq (x : Ex) (O : Orc) (e : Env) (st : Sto) : eNew x O e st = (x O e st).bind fun w st1 => match w.val.bind newCell with
  | some c => .ok (.cel st1.length) (st1 ++ [c])
  | none => .bad := rfl
/-! ### items -/
@[simp] theorem src_lst (st : Sto) (l : List A) : src st (.v (.lst l)) = some (l, fun _ => true) := rfl
@[simp] theorem src_tup (st : Sto) (l : List A) : src st (.v (.tup l)) = some (l, fun _ => true) := rfl
@[simp] theorem srcq_lst (st : Sto) (l : List A) : srcq st (.v (.lst l)) = some (l, fun _ => true) := rfl
@[simp] theorem srcq_tup (st : Sto) (l : List A) : srcq st (.v (.tup l)) = some (l, fun _ => true) := rfl
theorem itms_some {l : List A} {ok : Sto → Bool} (st : Sto) (h : l.length ≤ Sz) : itms (some (l, ok)) st = .ok (l, ok) st := if_pos h
theorem disp_ok {f : List A → A} {l : List W} {m : List A} {st : Sto} (h : vals l = some m) (hl : m.length ≤ Sz) : disp f l st = .ok (.v (f m)) st := by
  unfold disp; rw [h]; exact if_pos hl
@[simp] theorem disp0 (f : List A → A) (st : Sto) : disp f [] st = .ok (.v (f [])) st := rfl
@[simp] theorem disp1 (f : List A → A) (a : A) (st : Sto) : disp f [.v a] st = .ok (.v (f [a])) st := rfl
@[simp] theorem disp2 (f : List A → A) (a b : A) (st : Sto) : disp f [.v a, .v b] st = .ok (.v (f [a, b])) st := rfl
@[simp] theorem disp3 (f : List A → A) (a b c : A) (st : Sto) : disp f [.v a, .v b, .v c] st = .ok (.v (f [a, b, c])) st := rfl
/-! ### data -/
theorem dataL_all : ∀ l : List A, A.dataL l = l.all A.data
  | [] => rfl
  | a :: l => by simp [A.dataL, dataL_all l]
theorem depL_le : ∀ {l : List A} {n : Nat}, (∀ a ∈ l, a.dep ≤ n) → A.depL l ≤ n
  | [], _, _ => Nat.zero_le _
  | a :: l, n, h => by
    simp only [A.depL]
    exact Nat.max_le.mpr ⟨h a List.mem_cons_self, depL_le fun b hb => h b (List.mem_cons_of_mem _ hb)⟩
/-- data of some depth -/
def dat (n : Nat) (a : A) : Prop := a.data = true ∧ a.dep ≤ n
theorem dat_flat {n : Nat} {a : A} (h : dat n a) (hn : n ≤ 60) : flat a = true := by
  unfold flat; rw [h.1]; simp; exact Nat.le_trans h.2 hn
theorem dat.mono {m n : Nat} {a : A} (h : dat m a) (hn : m ≤ n) : dat n a := ⟨h.1, Nat.le_trans h.2 hn⟩
theorem dat_int (i : Int) (n : Nat) : dat n (.int i) := ⟨rfl, Nat.zero_le _⟩
theorem dat_bl (i : Bool) (n : Nat) : dat n (.bl i) := ⟨rfl, Nat.zero_le _⟩
theorem dat_non (n : Nat) : dat n .non := ⟨rfl, Nat.zero_le _⟩
theorem dat_tup {n : Nat} {l : List A} (h : ∀ a ∈ l, dat n a) : dat (n + 1) (.tup l) := by
  refine ⟨?_, ?_⟩
  · show A.dataL l = true
    rw [dataL_all, List.all_eq_true]
    exact fun a ha => (h a ha).1
  · show A.depL l + 1 ≤ n + 1
    exact Nat.succ_le_succ (depL_le fun a ha => (h a ha).2)
theorem dat_lst {n : Nat} {l : List A} (h : ∀ a ∈ l, dat n a) : dat (n + 1) (.lst l) := dat_tup (l := l) h
theorem flat_lst {n : Nat} {l : List A} (h : ∀ a ∈ l, dat n a) (hn : n < 60) : flat (.lst l) = true := dat_flat (dat_lst h) hn
theorem flat_tup {n : Nat} {l : List A} (h : ∀ a ∈ l, dat n a) (hn : n < 60) : flat (.tup l) = true := dat_flat (dat_tup h) hn
/-! ### all, any -/
theorem truths_map {α : Type} (f : α → Bool) : ∀ l : List α, truths (l.map fun a => .bl (f a)) = some (l.map f)
  | [] => rfl
  | a :: l => by
    have ih := truths_map f l
    simp [truths, truth1, A.truth, ih]
theorem bAll_map {α : Type} (f : α → Bool) (l : List α) : bAll [.lst (l.map fun a => .bl (f a))] = some (.bl (l.all f)) := by
  show (if flat (.lst (l.map fun a => .bl (f a))) then (truths (l.map fun a => .bl (f a))).map fun m => A.bl (m.all id) else none) = _
  rw [if_pos (flat_lst (n := 0) (fun a ha => by obtain ⟨b, _, rfl⟩ := List.mem_map.mp ha; exact dat_bl _ _) (by decide)), truths_map]
  simp [List.all_map]
theorem bAny_map {α : Type} (f : α → Bool) (l : List α) : bAny [.lst (l.map fun a => .bl (f a))] = some (.bl (l.any f)) := by
  show (if flat (.lst (l.map fun a => .bl (f a))) then (truths (l.map fun a => .bl (f a))).map fun m => A.bl (m.any id) else none) = _
  rw [if_pos (flat_lst (n := 0) (fun a ha => by obtain ⟨b, _, rfl⟩ := List.mem_map.mp ha; exact dat_bl _ _) (by decide)), truths_map]
  simp [List.any_map]
end PV
namespace PV
/-! ### comprehensions at once -/
theorem eLc_map {α : Type} {it : It} {tg : Tg} {own : List Nat} {t : Te} {x : Ex} {O : Orc} {env : Env} {st : Sto} {ok : Sto → Bool} (l : List α) (g : α → A) (p : α → Bool) (f : α → A)
    (hit : it O env st = .ok (l.map g, ok) st) (hok : ok st = true) (h : ∀ a ∈ l, ∃ e1, tg.put (g a) (wipe env own) = some e1 ∧ t O e1 st = .ok (p a) st ∧ (p a = true → x O e1 st = .ok (.v (f a)) st)) :
    eLc it tg own t x O env st = .ok (.v (.lst ((l.filter p).map f))) st := by
  rw [eLc_eq, hit]
  simp only [bind_ok]
  rw [if_pos hok, lcGo_map hok g p f l h]
  rfl
theorem eLc_yes {α : Type} {it : It} {tg : Tg} {own : List Nat} {x : Ex} {O : Orc} {env : Env} {st : Sto} {ok : Sto → Bool} (l : List α) (g : α → A) (f : α → A)
    (hit : it O env st = .ok (l.map g, ok) st) (hok : ok st = true) (h : ∀ a ∈ l, ∃ e1, tg.put (g a) (wipe env own) = some e1 ∧ x O e1 st = .ok (.v (f a)) st) :
    eLc it tg own tYes x O env st = .ok (.v (.lst (l.map f))) st := by
  rw [eLc_eq, hit]
  simp only [bind_ok]
  rw [if_pos hok, lcGo_yes hok g f l h]
  rfl
theorem sZipR_yes {α : Type} {i : Nat} {it : It} {g : Tg} {own : List Nat} {x : Ex} {f : List A → Option A} {O : Orc} {env : Env} {st : Sto} {ok : Sto → Bool} {r : A} (l : List α) (gg : α → A) (ff : α → A)
    (hit : it O env st = .ok (l.map gg, ok) st) (hok : ok st = true) (h : ∀ a ∈ l, ∃ e1, g.put (gg a) (wipe (env.set i none) own) = some e1 ∧ x O e1 st = .ok (.v (ff a)) st) (hf : f [.lst (l.map ff)] = some r) :
    sZipR i it g own tYes x f O env st = .rt (.v r) st := by
  unfold sZipR
  rw [hit]
  simp only [to_ok, sRet_eq, eFn_eq, esCons_eq, esNil_eq]
  rw [eLc_yes (it := fun _ _ st => .ok (l.map gg, ok) st) l gg ff rfl hok h]
  simp only [bind_ok, opL_1, hf, ofV_some, to_ok]
/-! ### things that change, plain ones -/
def plainSto : Sto → Bool
  | [] => true
  | .ins _ _ :: _ => false
  | .lst _ :: st => plainSto st
  | .dct _ :: st => plainSto st
theorem plain_old (n : Nat) : ∀ {st : Sto}, plainSto st = true → oldOnly n st = true
  | [], _ => rfl
  | .ins _ _ :: _, h => nomatch h
  | .lst _ :: st, h => plain_old n (st := st) h
  | .dct _ :: st, h => plain_old n (st := st) h
theorem plain_app : ∀ {st st' : Sto}, plainSto st = true → plainSto st' = true → plainSto (st ++ st') = true
  | [], _, _, h => h
  | .ins _ _ :: _, _, h, _ => nomatch h
  | .lst _ :: st, _, h, h' => plain_app (st := st) h h'
  | .dct _ :: st, _, h, h' => plain_app (st := st) h h'
theorem plain_set : ∀ {st : Sto} {n : Nat} {l : List A}, plainSto st = true → plainSto (st.set n (.lst l)) = true
  | [], _, _, _ => rfl
  | .ins _ _ :: _, _, _, h => nomatch h
  | .lst _ :: st, 0, _, h => h
  | .dct _ :: st, 0, _, h => h
  | .lst _ :: st, n + 1, l, h => plain_set (st := st) (n := n) (l := l) h
  | .dct _ :: st, n + 1, l, h => plain_set (st := st) (n := n) (l := l) h
/-- a local list is given back -/
theorem leave_lst {st : Sto} {l : List A} (h : plainSto st = true) : leave st.length (.cel st.length) (st ++ [.lst l]) = .ok (.v (.lst l)) st := by
  unfold leave
  rw [if_neg (by simp), List.take_left, if_pos (plain_old _ h)]
  simp [thaw]
/-- local things are forgotten -/
theorem leave_v {st st' : Sto} {a : A} (h : plainSto st = true) : leave st.length (.v a) (st ++ st') = .ok (.v a) st := by
  unfold leave
  split
  · rename_i e
    have : st' = [] := List.length_eq_zero_iff.mp (by simpa using e)
    rw [this, List.append_nil]
  · rw [List.take_left, if_pos (plain_old _ h)]
    rfl
theorem src_cel {st : Sto} {n : Nat} {l : List A} (h : st[n]? = some (.lst l)) : src st (.cel n) = some (l, fun st' => match st'[n]? with
      | some (.lst l') => A.sameL l l'
      | _ => false) := by
  show (match st[n]? with
    | some (.lst l) => some (l, fun (st' : Sto) => match st'[n]? with
      | some (.lst l') => A.sameL l l'
      | _ => false)
    | _ => none) = _
  rw [h]
theorem itSeq_cel {i n : Nat} {O : Orc} {env : Env} {st : Sto} {l : List A} (hi : env[i]? = some (some (.cel n))) (h : st[n]? = some (.lst l)) (hl : l.length ≤ Sz) : itSeq (eVar i) O env st = .ok (l, fun st' => match st'[n]? with
      | some (.lst l') => A.sameL l l'
      | _ => false) st := by
  rw [itSeq_eq, eVar_eq, hi]
  simp only [bind_ok]
  rw [src_cel h, itms_some _ hl]
theorem itSeq_lst {i : Nat} {O : Orc} {env : Env} {st : Sto} {l : List A} (hi : env[i]? = some (some (.v (.lst l)))) (hl : l.length ≤ Sz) : itSeq (eVar i) O env st = .ok (l, fun _ => true) st := by
  rw [itSeq_eq, eVar_eq, hi]
  simp only [bind_ok, src_lst]
  rw [itms_some _ hl]
theorem itSeq_tup {i : Nat} {O : Orc} {env : Env} {st : Sto} {l : List A} (hi : env[i]? = some (some (.v (.tup l)))) (hl : l.length ≤ Sz) : itSeq (eVar i) O env st = .ok (l, fun _ => true) st := by
  rw [itSeq_eq, eVar_eq, hi]
  simp only [bind_ok, src_tup]
  rw [itms_some _ hl]
end PV
end
section
set_option linter.all false
set_option Elab.async false
/-! PL2: the defs of lines. -/
namespace PV
theorem run_rt {T : Nat → Option FnD} {d f : Nat} {fd : FnD} {args : List W} {st st1 : Sto} {w : W} (h : T f = some fd) (hl : args.length = fd.np)
    (hb : fd.body (run T d) (args.map some ++ List.replicate (fd.ns - fd.np) none) st = .rt w st1) (hlen : st1.length = st.length) : run T (d + 1) f args st = .ok w st1 := by
  unfold run
  simp only [h]
  unfold enter
  rw [if_pos hl, hb]
  simp only
  split
  · rfl
  · unfold leave; rw [if_pos hlen]
theorem run_rtV {T : Nat → Option FnD} {d f : Nat} {fd : FnD} {args : List W} {st st1 st2 : Sto} {w w' : W} (h : T f = some fd) (hl : args.length = fd.np) (hk : fd.leaks = false)
    (hb : fd.body (run T d) (args.map some ++ List.replicate (fd.ns - fd.np) none) st = .rt w st1) (hlv : leave st.length w st1 = .ok w' st2) : run T (d + 1) f args st = .ok w' st2 := by
  unfold run
  simp only [h]
  unfold enter
  rw [if_pos hl, hb]
  simp only [hk, Bool.false_eq_true, if_false]
  exact hlv
/-! ### lines -/
abbrev Ent := Option Int
abbrev Line := List Ent
def encE : Ent → A
  | none => .non
  | some i => .int i
def encL (l : Line) : A := .tup (l.map encE)
def encLs (ls : List Line) : A := .lst (ls.map encL)
def leE (v its : Ent) : Bool := match its with
  | none => true
  | some j => match v with
    | none => false
    | some i => decide (i ≤ j)
def noGt (a b : Line) : Bool := (a.zip b).all fun p => leE p.1 p.2
theorem zip2_map {α β : Type} (f : α → A) (g : β → A) : ∀ (l : List α) (m : List β), zip2 (l.map f) (m.map g) = (l.zip m).map fun p => .tup [f p.1, g p.2]
  | [], _ => by simp [zip2]
  | _ :: _, [] => by simp [zip2]
  | a :: l, b :: m => by
    have ih := zip2_map f g l m
    simp only [zip2] at ih ⊢
    simp [ih]
theorem zip_len {α β : Type} (l : List α) (m : List β) : (l.zip m).length ≤ l.length := by simp; omega
@[simp] theorem same_non (v : Ent) : A.same (encE v) .non = v.isNone := by cases v <;> rfl
theorem is_no_greater_ok {T : Nat → Option FnD} {d : Nat} (hT : T 4 = some f_is_no_greater) (a b : Line) (ha : a.length ≤ Sz) (st : Sto) :
    run T (d + 1) 4 [.v (encL a), .v (encL b)] st = .ok (.v (.bl (noGt a b))) st := by
  refine run_rt hT rfl ?_ rfl
  have hz : ((a.zip b).map fun p => A.tup [encE p.1, encE p.2]).length ≤ Sz := by rw [List.length_map]; exact Nat.le_trans (zip_len a b) ha
  have hlc := lcGo_yes (O := run T d) (tg := .tup [.slot 3, .slot 4]) (x := eOr (eOp2 fIs (eVar 4) (eCon .non)) (eAnd (eOp2 fIsn (eVar 3) (eCon .non)) (eOp2 fLe (eVar 3) (eVar 4)))) (e := [some (.v (encL a)), some (.v (encL b)), none, none, none]) (ok := fun st' => true && true) (st := st) rfl (fun p : Ent × Ent => A.tup [encE p.1, encE p.2]) (fun p => .bl (leE p.1 p.2)) (a.zip b) (by
    rintro ⟨v, w⟩ hp
    refine ⟨_, rfl, ?_⟩
    cases w with
    | none => simp [encE, leE, A.same]
    | some j =>
      cases v with
      | none => simp [encE, leE, A.same]
      | some i => simp [encE, leE, A.same])
  simp only [f_is_no_greater, b_is_no_greater, sSeq_eq, sRet_eq, eFn_eq, esCons_eq, esNil_eq, eLc_eq, itZip2_eq, eVar_eq, List.map_cons, List.map_nil, List.replicate, List.cons_append, List.nil_append, List.getElem?_cons_zero, List.getElem?_cons_succ, bind_ok, zips2, encL, srcq_tup, zip2_map, itms_some _ hz, wipe, List.foldr, List.set, Bool.and_self, if_true] at hlc ⊢
  rw [hlc]
  simp only [quiet_ok, bind_ok, opL_1, bAll_map, ofV_some, to_ok, seq_rt]
  rfl
end PV
end
section
set_option linter.all false
set_option Elab.async false
/-! PL3: lines in order. -/
namespace PV
/-! ### lines are equal, stand in order -/
theorem eqv_encE (v w : Ent) : A.eqv (encE v) (encE w) = decide (v = w) := by
  cases v <;> cases w <;> simp [encE, A.eqv]
  rename_i i j
  by_cases h : i = j <;> simp [h]
theorem eqvL_map : ∀ a b : Line, A.eqvL (a.map encE) (b.map encE) = decide (a = b)
  | [], [] => by simp [A.eqvL]
  | [], _ :: _ => by simp [A.eqvL]
  | _ :: _, [] => by simp [A.eqvL]
  | v :: a, w :: b => by
    simp only [List.map_cons, A.eqvL, eqv_encE, eqvL_map a b, List.cons.injEq]
    by_cases h : v = w <;> by_cases h2 : a = b <;> simp [h, h2]
theorem eqv_encL (a b : Line) : A.eqv (encL a) (encL b) = decide (a = b) := eqvL_map a b
theorem encE_inj {v w : Ent} (h : encE v = encE w) : v = w := by cases v <;> cases w <;> simp_all [encE]
theorem map_encE_inj : ∀ {a b : Line}, a.map encE = b.map encE → a = b
  | [], [], _ => rfl
  | [], _ :: _, h => by simp at h
  | _ :: _, [], h => by simp at h
  | v :: a, w :: b, h => by
    simp only [List.map_cons, List.cons.injEq] at h
    rw [encE_inj h.1, map_encE_inj h.2]
theorem encL_inj {a b : Line} (h : encL a = encL b) : a = b := map_encE_inj (A.tup.inj h)
theorem dat_encE (v : Ent) (n : Nat) : dat n (encE v) := by cases v; exact dat_non n; exact dat_int _ n
theorem dat_encL (a : Line) : dat 1 (encL a) := dat_tup (n := 0) fun x hx => by obtain ⟨v, _, rfl⟩ := List.mem_map.mp hx; exact dat_encE v 0
theorem dat_encLs (ls : List Line) : dat 2 (encLs ls) := dat_lst (n := 1) fun x hx => by obtain ⟨v, _, rfl⟩ := List.mem_map.mp hx; exact dat_encL v
def ordE : Ent → A
  | none => .tup [.bl true, .int 0]
  | some i => .tup [.bl false, .int i]
def ordK (a : Line) : A := .tup (a.map ordE)
def ltE : Ent → Ent → Bool
  | some i, some j => decide (i < j)
  | some _, none => true
  | none, _ => false
def ltL : Line → Line → Bool
  | [], [] => false
  | [], _ :: _ => true
  | _ :: _, [] => false
  | v :: a, w :: b => ltE v w || (!ltE w v && ltL a b)
theorem toks_ordE (v : Ent) : (ordE v).toks = [.inl 1, .inl (if v.isNone then 1 else 0), .inl 1, .inl (v.getD 0), .inl 0] := by
  cases v <;> simp [ordE, A.toks, A.toksL]
theorem lexS_self (s : Int ⊕ List Nat) (r t : List (Int ⊕ List Nat)) : lexS (s :: r) (s :: t) = lexS r t := by
  have : itLt s s = false := by cases s <;> simp [itLt]
  simp [lexS, this]
theorem lexS_cons (x y : Int ⊕ List Nat) (r t : List (Int ⊕ List Nat)) : lexS (x :: r) (y :: t) = (itLt x y || (!itLt y x && lexS r t)) := rfl
theorem lt_ordK : ∀ a b : Line, A.lt (ordK a) (ordK b) = ltL a b
  | [], [] => by simp [A.lt, ordK, A.toks, A.toksL, lexS_self, lexS, ltL]
  | [], w :: b => by simp [A.lt, ordK, A.toks, A.toksL, lexS, ltL, itLt]
  | v :: a, [] => by simp [A.lt, ordK, A.toks, A.toksL, lexS, ltL, itLt]
  | v :: a, w :: b => by
    have ih := lt_ordK a b
    unfold A.lt ordK at ih ⊢
    simp only [A.toks, List.map_cons, A.toksL, toks_ordE, List.cons_append, List.nil_append] at ih ⊢
    rw [lexS_self, lexS_self]
    cases v <;> cases w <;> simp [lexS_cons, itLt, ltE, ltL, ih]
    all_goals (try (rename_i i j; by_cases h : i < j <;> by_cases h2 : j < i <;> simp_all <;> omega))
def leL (a b : Line) : Bool := !ltL b a
theorem ltE_irrefl (v : Ent) : ltE v v = false := by cases v <;> simp [ltE]
theorem ltE_asymm {v w : Ent} (h : ltE v w = true) : ltE w v = false := by cases v <;> cases w <;> simp_all [ltE]; omega
theorem ltE_trans {v w x : Ent} (h : ltE v w = true) (h2 : ltE w x = true) : ltE v x = true := by
  cases v <;> cases w <;> cases x <;> simp_all [ltE]; omega
theorem ltE_total (v w : Ent) : ltE v w = true ∨ v = w ∨ ltE w v = true := by
  cases v <;> cases w <;> simp [ltE]; omega
theorem ltL_irrefl : ∀ a : Line, ltL a a = false
  | [] => rfl
  | v :: a => by simp [ltL, ltE_irrefl, ltL_irrefl a]
theorem ltL_asymm : ∀ {a b : Line}, ltL a b = true → ltL b a = false
  | [], [], h => by simp [ltL] at h
  | [], _ :: _, _ => rfl
  | _ :: _, [], h => by simp [ltL] at h
  | v :: a, w :: b, h => by
    simp only [ltL, Bool.or_eq_true, Bool.and_eq_true, Bool.not_eq_true'] at h
    rcases h with h | ⟨h1, h2⟩
    · simp [ltL, h, ltE_asymm h]
    · simp only [ltL, h1, Bool.false_or, ltL_asymm h2, Bool.and_false]
theorem ltL_trans : ∀ {a b c : Line}, ltL a b = true → ltL b c = true → ltL a c = true
  | [], [], _, h, _ => by simp [ltL] at h
  | [], _ :: _, [], _, h => by simp [ltL] at h
  | [], _ :: _, _ :: _, _, _ => rfl
  | _ :: _, [], _, h, _ => by simp [ltL] at h
  | _ :: _, _ :: _, [], _, h => by simp [ltL] at h
  | v :: a, w :: b, x :: c, h, h2 => by
    simp only [ltL, Bool.or_eq_true, Bool.and_eq_true, Bool.not_eq_true'] at h h2 ⊢
    rcases ltE_total v w with e | e | e
    · left
      rcases ltE_total w x with f | f | f
      · exact ltE_trans e f
      · subst f; exact e
      · rcases h2 with h2 | ⟨h2, _⟩
        · exact ltE_trans e h2
        · rw [f] at h2; cases h2
    · subst e
      rcases h2 with h2 | ⟨h2, h3⟩
      · exact .inl h2
      · rcases h with h | ⟨_, h4⟩
        · rw [ltE_irrefl] at h; cases h
        · exact .inr ⟨h2, ltL_trans h4 h3⟩
    · rcases h with h | ⟨h, _⟩
      · rw [ltE_asymm e] at h; cases h
      · rw [e] at h; cases h
theorem ltL_total : ∀ a b : Line, ltL a b = true ∨ a = b ∨ ltL b a = true
  | [], [] => .inr (.inl rfl)
  | [], _ :: _ => .inl rfl
  | _ :: _, [] => .inr (.inr rfl)
  | v :: a, w :: b => by
    rcases ltE_total v w with e | e | e
    · exact .inl (by simp [ltL, e])
    · subst e
      rcases ltL_total a b with f | f | f
      · exact .inl (by simp [ltL, ltE_irrefl, f])
      · exact .inr (.inl (by rw [f]))
      · exact .inr (.inr (by simp [ltL, ltE_irrefl, f]))
    · exact .inr (.inr (by simp [ltL, e]))
theorem leL_trans (a b c : Line) (h : leL a b = true) (h2 : leL b c = true) : leL a c = true := by
  unfold leL at *
  simp only [Bool.not_eq_true'] at *
  cases e : ltL c a with
  | false => rfl
  | true =>
    rcases ltL_total a b with f | f | f
    · rw [ltL_trans e f] at h2; cases h2
    · subst f; rw [e] at h2; cases h2
    · rw [h] at f; cases f
theorem leL_total (a b : Line) : (leL a b || leL b a) = true := by
  unfold leL
  cases e : ltL b a with
  | false => rfl
  | true => simp [ltL_asymm e]
theorem leL_antisymm {a b : Line} (h : leL a b = true) (h2 : leL b a = true) : a = b := by
  unfold leL at *
  rcases ltL_total a b with f | f | f
  · rw [f] at h2; cases h2
  · exact f
  · rw [f] at h; cases h
/-! ### unlike ones -/
def addL (acc : List Line) (l : Line) : List Line := if acc.contains l then acc else acc ++ [l]
def dedupL (ls : List Line) : List Line := ls.foldl addL []
theorem mem_addL {acc : List Line} {l x : Line} : x ∈ addL acc l ↔ x ∈ acc ∨ x = l := by
  unfold addL
  split
  · rename_i h
    have := List.contains_iff_mem.mp h
    exact ⟨.inl, fun q => q.elim id fun e => e ▸ this⟩
  · simp
theorem mem_foldl_addL : ∀ {ls acc : List Line} {x : Line}, x ∈ ls.foldl addL acc ↔ x ∈ acc ∨ x ∈ ls
  | [], acc, x => by simp
  | l :: ls, acc, x => by
    rw [List.foldl_cons, mem_foldl_addL, mem_addL]
    simp [or_assoc]
theorem mem_dedupL {ls : List Line} {x : Line} : x ∈ dedupL ls ↔ x ∈ ls := by
  unfold dedupL
  rw [mem_foldl_addL]
  simp
theorem nodup_addL {acc : List Line} {l : Line} (h : acc.Nodup) : (addL acc l).Nodup := by
  unfold addL
  split
  · exact h
  · rename_i hc
    refine List.nodup_append.mpr ⟨h, by simp, fun a ha b hb e => ?_⟩
    have : b = l := by simpa using hb
    subst this e
    exact hc (List.contains_iff_mem.mpr ha)
theorem nodup_foldl_addL : ∀ {ls acc : List Line}, acc.Nodup → (ls.foldl addL acc).Nodup
  | [], _, h => h
  | _ :: ls, _, h => nodup_foldl_addL (ls := ls) (nodup_addL h)
theorem nodup_dedupL (ls : List Line) : (dedupL ls).Nodup := nodup_foldl_addL (acc := []) List.nodup_nil
theorem len_addL (acc : List Line) (l : Line) : (addL acc l).length ≤ acc.length + 1 := by
  unfold addL; split <;> simp
theorem len_foldl_addL : ∀ (ls acc : List Line), (ls.foldl addL acc).length ≤ acc.length + ls.length
  | [], acc => by simp
  | l :: ls, acc => by
    have h1 := len_foldl_addL ls (addL acc l)
    have h2 := len_addL acc l
    rw [List.foldl_cons, List.length_cons]
    omega
theorem len_dedupL (ls : List Line) : (dedupL ls).length ≤ ls.length := by
  have := len_foldl_addL ls []
  simpa [dedupL] using this
/-- unlike lines, ascending -/
def ordL (ls : List Line) : List Line := (dedupL ls).mergeSort leL
theorem mem_ordL {ls : List Line} {x : Line} : x ∈ ordL ls ↔ x ∈ ls := by
  unfold ordL
  rw [List.mem_mergeSort, mem_dedupL]
theorem nodup_ordL (ls : List Line) : (ordL ls).Nodup := (List.mergeSort_perm _ _).nodup_iff.mpr (nodup_dedupL ls)
theorem len_ordL (ls : List Line) : (ordL ls).length ≤ ls.length := by
  unfold ordL
  rw [List.length_mergeSort]
  exact len_dedupL ls
theorem sorted_ordL (ls : List Line) : (ordL ls).Pairwise fun a b => leL a b = true := List.pairwise_mergeSort leL_trans leL_total _
/-- ascending lists with the same members are one -/
theorem asc_ext_L : ∀ {l m : List Line}, l.Nodup → m.Nodup → (l.Pairwise fun a b => leL a b = true) → (m.Pairwise fun a b => leL a b = true) → (∀ x, x ∈ l ↔ x ∈ m) → l = m := by
  intro l m h1 h2 h3 h4 h5
  have hp : l.Perm m := (List.perm_ext_iff_of_nodup h1 h2).mpr h5
  exact hp.eq_of_pairwise (fun a b _ _ q1 q2 => leL_antisymm q1 q2) h3 h4
end PV
end
section
set_option linter.all false
set_option Elab.async false
/-! PL4: lines ordered, least ones, greatest ones. -/
namespace PV
/-- lines as a list or a tuple -/
def IsLs (a : A) (ls : List Line) : Prop := a = .lst (ls.map encL) ∨ a = .tup (ls.map encL)
theorem itSeq_ls {i : Nat} {O : Orc} {env : Env} {st : Sto} {a : A} {ls : List Line} (hi : env[i]? = some (some (.v a))) (h : IsLs a ls) (hl : ls.length ≤ Sz) : itSeq (eVar i) O env st = .ok (ls.map encL, fun _ => true) st := by
  rcases h with rfl | rfl
  · exact itSeq_lst hi (by simpa using hl)
  · exact itSeq_tup hi (by simpa using hl)
theorem itSeq_encL {i : Nat} {O : Orc} {env : Env} {st : Sto} {a : Line} (hi : env[i]? = some (some (.v (encL a)))) (hl : a.length ≤ Sz) : itSeq (eVar i) O env st = .ok (a.map encE, fun _ => true) st := itSeq_tup hi (by simpa using hl)
section
variable {T : Nat → Option FnD} {d : Nat}
theorem order_of_ok (hT : T 5 = some f_order_of) (a : Line) (ha : a.length ≤ Sz) (st : Sto) : run T (d + 1) 5 [.v (encL a)] st = .ok (.v (ordK a)) st := by
  refine run_rt hT rfl ?_ rfl
  have hlc := eLc_yes (it := itSeq (eVar 0)) (tg := .slot 2) (own := [1, 2]) (x := eTup (esCons (eOp2 fIs (eVar 2) (eCon .non)) (esCons (eIf (tEx (eOp2 fIs (eVar 2) (eCon .non))) (eCon (.int 0)) (eVar 2)) esNil))) (O := run T d) (env := [some (.v (encL a)), none, none]) (st := st) a encE ordE (itSeq_encL rfl ha) rfl (by
    intro v _
    refine ⟨_, rfl, ?_⟩
    cases v <;> simp [encE, ordE, A.same, wipe])
  simp only [f_order_of, b_order_of, sSeq_eq, sRet_eq, eFn_eq, esCons_eq, esNil_eq, List.map_cons, List.map_nil, List.replicate, List.cons_append, List.nil_append] at hlc ⊢
  rw [hlc]
  rfl
theorem keysGo_ok {O : Orc} {i : Nat} (f : Line → A) : ∀ (ls : List Line) (st : Sto), (∀ l ∈ ls, ∀ st, O i [.v (encL l)] st = .ok (.v (f l)) st) → keysGo O i (ls.map encL) st = .ok (ls.map f) st
  | [], st, _ => rfl
  | l :: ls, st, h => by
    rw [List.map_cons]
    unfold keysGo
    rw [h l List.mem_cons_self st]
    simp only [bind_ok, PV.W.val, of_some]
    rw [keysGo_ok f ls st fun x hx => h x (List.mem_cons_of_mem _ hx)]
    rfl
def yes (l : Line) : A × A := (encL l, .bl true)
theorem dPut_addL (acc : List Line) (l : Line) : dPut (acc.map yes) (encL l) (.bl true) = (addL acc l).map yes := by
  have hh : dHas (acc.map yes) (encL l) = acc.contains l := by
    unfold dHas
    rw [List.any_map]
    have : ((fun p : A × A => A.eqv p.1 (encL l)) ∘ yes) = fun x => decide (x = l) := by
      funext x
      exact eqv_encL x l
    rw [this, List.contains_eq_any_beq]
    congr
    funext x
    by_cases e : x = l
    · simp [e]
    · have : ¬ l = x := fun q => e q.symm
      simp [e, this]
  unfold dPut addL
  rw [hh]
  split
  · rw [List.map_map]
    refine List.map_congr_left fun x _ => ?_
    show (if A.eqv (encL x) (encL l) = true then (encL x, A.bl true) else yes x) = yes x
    split <;> rfl
  · rw [List.map_append]
    rfl
theorem tupKey_encL (l : Line) : tupKey (encL l) = true := by
  have h : ∀ l : Line, A.hkL (l.map encE) = true := by
    intro l
    induction l with
    | nil => rfl
    | cons v l ih => cases v <;> simp [A.hkL, A.hk, encE, ih]
  show (A.hkL (l.map encE) && decide ((encL l).dep ≤ 8)) = true
  rw [h l, decide_eq_true (Nat.le_trans (dat_encL l).2 (by decide))]
  rfl
theorem dcGo_ok {O : Orc} {i : Nat} {e : Env} (hi : i < e.length) (st : Sto) : ∀ (ls acc : List Line), dcGo O (.slot i) tYes (eVar i) (eCon (.bl true)) e (fun _ => true) (ls.map encL) (acc.map yes) st = .ok ((ls.foldl addL acc).map yes) st
  | [], acc => rfl
  | l :: ls, acc => by
    rw [List.map_cons]
    unfold dcGo
    simp only [Tg.put, tYes_eq, bind_ok, if_true, eVar_eq, List.getElem?_set_self hi, PV.W.val, of_some, eCon_eq, tupKey_encL, Bool.and_self, dPut_addL]
    rw [dcGo_ok hi st ls (addL acc l)]
    rfl
theorem alike_ordK : ∀ a b : Line, A.alike (ordK a) (ordK b) = true := by
  have h : ∀ a b : Line, A.alikeL (a.map ordE) (b.map ordE) = true := by
    intro a
    induction a with
    | nil => intro b; cases b <;> rfl
    | cons v a ih =>
      intro b
      cases b with
      | nil => rfl
      | cons w b =>
        have : A.alike (ordE v) (ordE w) = true := by cases v <;> cases w <;> rfl
        simp [A.alikeL, this, ih b]
  exact fun a b => h a b
theorem dat_ordK (a : Line) : dat 2 (ordK a) := dat_tup (n := 1) fun x hx => by
  obtain ⟨v, _, rfl⟩ := List.mem_map.mp hx
  cases v <;> exact dat_tup (n := 0) fun y hy => by
    simp at hy
    rcases hy with rfl | rfl
    · exact dat_bl _ _
    · exact dat_int _ _
theorem sortable_ordK {ls : List Line} (h : ∀ l ∈ ls, l ≠ []) : sortable (ls.map ordK) = true := by
  unfold sortable
  simp only [Bool.and_eq_true, Bool.or_eq_true, List.all_map, List.all_eq_true, Function.comp]
  refine ⟨fun a _ b _ => alike_ordK a b, .inl fun a ha => ?_⟩
  cases a with
  | nil => exact absurd rfl (h [] ha)
  | cons v a => rfl
theorem sortBy_ordK (ls : List Line) : sortBy (ls.map ordK) (ls.map encL) = (ls.mergeSort leL).map encL := by
  unfold sortBy
  rw [show (ls.map ordK).zip (ls.map encL) = ls.map fun l => (ordK l, encL l) by rw [List.zip_map']]
  rw [← List.map_mergeSort (r := leL) (s := fun p q : A × A => !A.lt q.1 p.1) (f := fun l => (ordK l, encL l)) fun a _ b _ => by rw [lt_ordK]; rfl, List.map_map]
  rfl
/-- lines of so many entries -/
def Wide (n : Nat) (ls : List Line) : Prop := ∀ l ∈ ls, l.length = n
theorem Wide.ordL {n : Nat} {ls : List Line} (h : Wide n ls) : Wide n (ordL ls) := fun l hl => h l (mem_ordL.mp hl)
theorem ordered_ok (h5 : T 5 = some f_order_of) (h6 : T 6 = some f_ordered) {a : A} {ls : List Line} (ha : IsLs a ls) {n : Nat} (hw : Wide (n + 1) ls) (hn : n < 1000) (hl : ls.length ≤ Sz) (st : Sto) :
    run T (d + 2) 6 [.v a] st = .ok (.v (encLs (ordL ls))) st := by
  refine run_rt h6 rfl ?_ rfl
  simp only [f_ordered, b_ordered, sSeq_eq, sRet_eq, List.map_cons, List.map_nil, List.replicate, List.cons_append, List.nil_append]
  have hd : eDc (itSeq (eVar 0)) (.slot 2) [1, 2] tYes (eVar 2) (eCon (.bl true)) (run T (d + 1)) [some (.v a), none, none] st = .ok (.v (.dct ((dedupL ls).map yes))) st := by
    unfold eDc
    rw [itSeq_ls rfl ha hl]
    simp only [bind_ok, if_true]
    have := dcGo_ok (O := run T (d + 1)) (i := 2) (e := wipe [some (.v a), none, none] [1, 2]) (by simp [wipe]) st ls []
    rw [List.map_nil] at this
    rw [this]
    rfl
  unfold eSortK
  rw [hd]
  simp only [bind_ok, vw_v, Option.bind_some, collA, of_some, List.map_map]
  rw [show (fun p : A × A => p.1) ∘ yes = encL from rfl, keysGo_ok ordK (dedupL ls) st fun l hl2 st => order_of_ok h5 l (by rw [hw l (mem_dedupL.mp hl2)]; exact Nat.le_trans hn (by decide)) st]
  simp only [quiet_ok, bind_ok]
  unfold sortK
  rw [if_pos (by
    rw [flat_lst (n := 2) (fun x hx => by obtain ⟨l, _, rfl⟩ := List.mem_map.mp hx; exact dat_ordK l) (by decide), sortable_ordK fun l hl2 e => by
      have := hw l (mem_dedupL.mp hl2)
      rw [e] at this
      cases this]
    rfl), sortBy_ordK]
  rfl
/-- of lines in order those that nothing taken stands below -/
def keepL (r : Line → Line → Bool) : List Line → List Line → List Line
  | [], acc => acc
  | l :: ls, acc => keepL r ls (if acc.any fun one => r one l then acc else acc ++ [l])
theorem anyB {O : Orc} {e : Env} {st : Sto} {acc : List Line} {n : Nat} {xs : Es} (r : Line → Bool) (hl : acc.length ≤ Sz) (hi : e[1]? = some (some (.cel n))) (hc : st[n]? = some (.lst (acc.map encL))) (h4 : 4 < e.length)
    (hx : ∀ one ∈ acc, (xs O ((wipe e [3, 4]).set 4 (some (.v (encL one)))) st).bind (fun l st1 => O 4 l st1) = .ok (.v (.bl (r one))) st) :
    PV.tNot (tEx (eFn bAny (esCons (eLc (itSeq (eVar 1)) (.slot 4) [3, 4] PV.tYes (eCall 4 xs)) esNil))) O e st = .ok (!acc.any r) st := by
  have hlc := eLc_yes (it := itSeq (eVar 1)) (tg := .slot 4) (own := [3, 4]) (x := eCall 4 xs) (O := O) (env := e) (st := st) acc encL (fun one => .bl (r one)) (itSeq_cel hi hc (by simpa using hl)) (by simp [hc]) (by
    intro one ho
    exact ⟨_, rfl, hx one ho⟩)
  simp only [tNot_eq, tEx_eq, eFn_eq, esCons_eq, esNil_eq]
  rw [hlc]
  simp only [bind_ok, opL_1, bAny_map, ofV_some, truthW_bl]
theorem appendB {O : Orc} {e : Env} {st : Sto} {acc : List Line} {n : Nat} {l : Line} (hl : acc.length < Sz) (hi : e[1]? = some (some (.cel n))) (h2 : e[2]? = some (some (.v (encL l)))) (hc : st[n]? = some (.lst (acc.map encL))) :
    sEx (eMut mAppend (eVar 1) (esCons (eVar 2) esNil)) O e st = .nx e (st.set n (.lst ((acc ++ [l]).map encL))) := by
  simp only [sEx_eq]
  unfold eMut
  simp only [eVar_eq, hi, bind_ok, isLc, hc, if_true, esCons_eq, h2, esNil_eq, mutL, vals_cons, vals_nil, Option.map_some, Option.bind_some, mAppend]
  rw [if_pos (by simp; omega), to_ok, List.map_append]
  rfl
theorem amongGo {O : Orc} {body : Stm} {n : Nat} {L0 : W} (r : Line → Line → Bool) {st0 : Sto} (P : Line → Prop)
    (hb : ∀ (acc : List Line) (l : Line) (x3 : Option W), acc.length < Sz → (∀ o ∈ acc, P o) → P l → body O [some L0, some (.cel n), some (.v (encL l)), x3, none] (st0 ++ [.lst (acc.map encL)]) = .nx [some L0, some (.cel n), some (.v (encL l)), x3, none] (st0 ++ [.lst ((if acc.any fun one => r one l then acc else acc ++ [l]).map encL)])) :
    ∀ (ls acc : List Line) (x2 x3 : Option W), acc.length + ls.length ≤ Sz → (∀ o ∈ acc, P o) → (∀ o ∈ ls, P o) → ∃ x2', forGo O (.slot 2) body (fun _ => true) (ls.map encL) [some L0, some (.cel n), x2, x3, none] (st0 ++ [.lst (acc.map encL)]) = .nx [some L0, some (.cel n), x2', x3, none] (st0 ++ [.lst ((keepL r ls acc).map encL)])
  | [], acc, x2, x3, _, _, _ => ⟨x2, rfl⟩
  | l :: ls, acc, x2, x3, hl, hA, hL => by
    have hlen : (if acc.any fun one => r one l then acc else acc ++ [l]).length ≤ acc.length + 1 := by split <;> simp
    rw [List.length_cons] at hl
    have hA2 : ∀ o ∈ (if acc.any fun one => r one l then acc else acc ++ [l]), P o := by
      intro o ho
      split at ho
      · exact hA o ho
      · rcases List.mem_append.mp ho with h | h
        · exact hA o h
        · rw [show o = l by simpa using h]; exact hL l List.mem_cons_self
    obtain ⟨x2', ih⟩ := amongGo r P hb ls (if acc.any fun one => r one l then acc else acc ++ [l]) (some (.v (encL l))) x3 (by omega) hA2 (fun o ho => hL o (List.mem_cons_of_mem _ ho))
    refine ⟨x2', ?_⟩
    rw [List.map_cons]
    unfold forGo
    have hp : (Tg.slot 2).put (encL l) [some L0, some (.cel n), x2, x3, none] = some [some L0, some (.cel n), some (.v (encL l)), x3, none] := rfl
    rw [hp]
    dsimp only
    rw [hb acc l x3 (by omega) hA (hL l List.mem_cons_self)]
    exact ih
theorem get_new {st : Sto} {c : Cell} : (st ++ [c])[st.length]? = some c := by simp
theorem set_new {st : Sto} {c c' : Cell} : (st ++ [c]).set st.length c' = st ++ [c'] := by simp
/-- a turn of both -/
theorem amongB {O : Orc} {a : W} {st : Sto} {xs : Es} (r : Line → Line → Bool) (acc : List Line) (l : Line) (x3 : Option W) (hacc : acc.length < Sz)
    (hx : ∀ one ∈ acc, (xs O [some a, some (.cel st.length), some (.v (encL l)), none, some (.v (encL one))] (st ++ [.lst (acc.map encL)])).bind (fun l st1 => O 4 l st1) = .ok (.v (.bl (r one l))) (st ++ [.lst (acc.map encL)])) :
    (sSeq (sIf (PV.tNot (tEx (eFn bAny (esCons (eLc (itSeq (eVar 1)) (.slot 4) [3, 4] PV.tYes (eCall 4 xs)) esNil)))) (sSeq (sEx (eMut mAppend (eVar 1) (esCons (eVar 2) esNil))) sNil) sNil) sNil) O [some a, some (.cel st.length), some (.v (encL l)), x3, none] (st ++ [.lst (acc.map encL)]) =
      .nx [some a, some (.cel st.length), some (.v (encL l)), x3, none] (st ++ [.lst ((if acc.any fun one => r one l then acc else acc ++ [l]).map encL)]) := by
  rw [sSeq_eq, sIf_eq, anyB (e := [some a, some (.cel st.length), some (.v (encL l)), x3, none]) (fun one => r one l) (Nat.le_of_lt hacc) rfl get_new (by decide : 4 < 5) (fun one ho => hx one ho)]
  rw [to_ok]
  cases acc.any fun one => r one l with
  | true => rfl
  | false =>
    simp only [Bool.not_false, if_true, Bool.false_eq_true, if_false]
    rw [sSeq_eq, appendB hacc rfl rfl get_new, set_new]
    rfl
theorem least_among_ok (h4 : T 4 = some f_is_no_greater) (h5 : T 5 = some f_order_of) (h6 : T 6 = some f_ordered) (h7 : T 7 = some f_least_among) {ls : List Line} {a : A} (ha : IsLs a ls) {n : Nat} (hw : Wide (n + 1) ls) (hn : n < 1000) (hl : ls.length < Sz) {st : Sto} (hp : plainSto st = true) :
    run T (d + 3) 7 [.v a] st = .ok (.v (encLs (keepL noGt (ordL ls) []))) st := by
  refine run_rtV (st1 := st ++ [.lst ((keepL noGt (ordL ls) []).map encL)]) (w := .cel st.length) h7 rfl rfl ?_ (leave_lst hp)
  have hord := ordered_ok (d := d) h5 h6 ha hw hn (Nat.le_of_lt hl) (st ++ [.lst []])
  have hlo := len_ordL ls
  obtain ⟨x2', go⟩ := amongGo (O := run T (d + 2)) (st0 := st) (n := st.length) noGt (fun l => l.length = n + 1) (fun acc l x3 hacc hA hL => amongB (O := run T (d + 2)) (a := .v a) (xs := esDef (esCons (eVar 4) (esCons (eVar 2) esNil)) []) noGt acc l x3 hacc fun one ho => by
    have := is_no_greater_ok (d := d + 1) h4 one l (by rw [hA one ho]; exact Nat.le_trans hn (by decide)) (st ++ [.lst (acc.map encL)])
    simpa using this) (ordL ls) [] none none (by simp; omega) (fun _ h => nomatch h) hw.ordL
  simp only [f_least_among, b_least_among, sSeq_eq, sRet_eq, sSet_eq, eNew_eq, eLst_eq, esNil_eq, bind_ok, disp0, PV.W.val, Option.bind_some, newCell, to_ok, seq_nx, sFor_eq, itSeq_eq, eCall_eq, esDef_eq, esCons_eq, eVar_eq, List.map_cons, List.map_nil, List.replicate, List.cons_append, List.nil_append, List.set, List.getElem?_cons_zero, List.append_nil, List.getElem?_cons_succ] at go ⊢
  rw [hord]
  simp only [bind_ok, encLs, src_lst, itms_some (l := (ordL ls).map encL) _ (by rw [List.length_map]; omega), to_ok, if_true]
  rw [go]
  rfl
theorem greatest_among_ok (h4 : T 4 = some f_is_no_greater) (h5 : T 5 = some f_order_of) (h6 : T 6 = some f_ordered) (h8 : T 8 = some f_greatest_among) {ls : List Line} {a : A} (ha : IsLs a ls) {n : Nat} (hw : Wide (n + 1) ls) (hn : n < 1000) (hl : ls.length < Sz) {st : Sto} (hp : plainSto st = true) :
    run T (d + 3) 8 [.v a] st = .ok (.v (encLs (keepL (fun one l => noGt l one) (ordL ls).reverse []).reverse)) st := by
  refine run_rtV (st1 := st ++ [.lst ((keepL (fun one l => noGt l one) (ordL ls).reverse []).map encL)]) (w := .v (encLs (keepL (fun one l => noGt l one) (ordL ls).reverse []).reverse)) h8 rfl rfl ?_ (leave_v hp)
  have hord := ordered_ok (d := d) h5 h6 ha hw hn (Nat.le_of_lt hl) (st ++ [.lst []])
  have hlo := len_ordL ls
  obtain ⟨x2', go⟩ := amongGo (O := run T (d + 2)) (st0 := st) (n := st.length) (fun one l => noGt l one) (fun l => l.length = n + 1) (fun acc l x3 hacc hA hL => amongB (O := run T (d + 2)) (a := .v a) (xs := esDef (esCons (eVar 2) (esCons (eVar 4) esNil)) []) (fun one l => noGt l one) acc l x3 hacc fun one ho => by
    have := is_no_greater_ok (d := d + 1) h4 l one (by rw [hL]; exact Nat.le_trans hn (by decide)) (st ++ [.lst (acc.map encL)])
    simpa using this) (ordL ls).reverse [] none none (by simp; omega) (fun _ h => nomatch h) (fun o ho => hw.ordL o (List.mem_reverse.mp ho))
  simp only [f_greatest_among, b_greatest_among, sSeq_eq, sRet_eq, sSet_eq, eNew_eq, eLst_eq, esNil_eq, bind_ok, disp0, PV.W.val, Option.bind_some, newCell, to_ok, seq_nx, sFor_eq, itSeq_eq, eOp1_eq, eCall_eq, esDef_eq, esCons_eq, eVar_eq, List.map_cons, List.map_nil, List.replicate, List.cons_append, List.nil_append, List.set, List.getElem?_cons_zero, List.append_nil, List.getElem?_cons_succ] at go ⊢
  rw [hord]
  simp only [bind_ok, encLs, op1_v, fRev, ofV_some, src_lst, ← List.map_reverse, itms_some (l := (ordL ls).reverse.map encL) _ (by rw [List.length_map, List.length_reverse]; omega), to_ok, if_true]
  rw [go]
  simp [op1, vw, fRev]
end
end PV
end
section
set_option linter.all false
set_option Elab.async false
/-! PL5: what lies outside of lines. -/
namespace PV
theorem lcGo2_map {α β : Type} {O : Orc} {tg : Tg} {t : Te} {it1 : It} {tg1 : Tg} {own1 : List Nat} {x : Ex} {e : Env} {ok : Sto → Bool} {st : Sto} (hok : ok st = true) (g : α → A) (p : α → Bool) (m : α → List β) (g1 : β → A) (f : α → β → A) :
    ∀ (l : List α) (n : Nat), n + ((l.filter p).flatMap m).length ≤ Sz → (∀ a ∈ l, ∃ e1, tg.put (g a) e = some e1 ∧ t O e1 st = .ok (p a) st ∧ (p a = true → ∃ ok1, it1 O e1 st = .ok ((m a).map g1, ok1) st ∧ ok1 st = true ∧
      ∀ b ∈ m a, ∃ e2, tg1.put (g1 b) (wipe e1 own1) = some e2 ∧ x O e2 st = .ok (.v (f a b)) st)) →
      lcGo2 O tg t it1 tg1 own1 tYes x e ok n (l.map g) st = .ok ((l.filter p).flatMap fun a => (m a).map (f a)) st
  | [], _, _, _ => rfl
  | a :: l, n, hn, h => by
    obtain ⟨e1, h1, h2, h3⟩ := h a List.mem_cons_self
    rw [List.map_cons]
    unfold lcGo2
    simp only [h1, h2, bind_ok]
    cases hp : p a with
    | false =>
      rw [List.filter_cons, hp] at hn
      simp only [Bool.false_eq_true, if_false] at hn
      simp only [Bool.false_eq_true, if_false, hok, if_true, List.filter_cons, hp]
      exact lcGo2_map hok g p m g1 f l n hn fun b hb => h b (List.mem_cons_of_mem _ hb)
    | true =>
      obtain ⟨ok1, q1, q2, q3⟩ := h3 hp
      rw [List.filter_cons, hp] at hn
      simp only [if_true, List.flatMap_cons, List.length_append] at hn
      have hc : (ok1 st && decide (n + ((m a).map g1).length ≤ Sz)) = true := by
        rw [q2, List.length_map, decide_eq_true (by omega)]; rfl
      simp only [if_true, q1, bind_ok, hc]
      rw [lcGo_yes q2 g1 (f a) (m a) q3]
      simp only [bind_ok, hok, if_true, List.length_map]
      rw [lcGo2_map hok g p m g1 f l (n + (m a).length) (by omega) fun b hb => h b (List.mem_cons_of_mem _ hb)]
      simp only [bind_ok, List.filter_cons, hp, if_true, List.flatMap_cons]
theorem eLc2_map {α β : Type} {it : It} {tg : Tg} {own : List Nat} {t : Te} {it1 : It} {tg1 : Tg} {own1 : List Nat} {x : Ex} {O : Orc} {env : Env} {ok : Sto → Bool} {st : Sto} (l : List α) (g : α → A) (p : α → Bool) (m : α → List β) (g1 : β → A) (f : α → β → A)
    (hit : it O env st = .ok (l.map g, ok) st) (hok : ok st = true) (hn : ((l.filter p).flatMap m).length ≤ Sz) (h : ∀ a ∈ l, ∃ e1, tg.put (g a) (wipe env own) = some e1 ∧ t O e1 st = .ok (p a) st ∧ (p a = true → ∃ ok1, it1 O e1 st = .ok ((m a).map g1, ok1) st ∧ ok1 st = true ∧
      ∀ b ∈ m a, ∃ e2, tg1.put (g1 b) (wipe e1 own1) = some e2 ∧ x O e2 st = .ok (.v (f a b)) st)) :
    eLc2 it tg own t it1 tg1 own1 tYes x O env st = .ok (.v (.lst ((l.filter p).flatMap fun a => (m a).map (f a)))) st := by
  unfold eLc2
  rw [hit]
  simp only [bind_ok]
  rw [if_pos hok, lcGo2_map hok g p m g1 f l 0 (by omega) h]
  rfl
theorem enumA_map {α : Type} (f : α → A) : ∀ (l : List α) (i : Nat), enumA i (l.map f) = (l.zipIdx i).map fun p => .tup [.int p.2, f p.1]
  | [], _ => rfl
  | a :: l, i => by
    rw [List.map_cons, enumA, enumA_map f l (i + 1), List.zipIdx_cons, List.map_cons]
/-! ### small ones -/
def joinE (v w : Ent) : Ent := match v, w with
  | some i, some j => some (if j > i then j else i)
  | _, _ => none
def metE (v w : Ent) : Ent := match v, w with
  | none, w => w
  | some i, none => some i
  | some i, some j => some (if j < i then j else i)
def joinL (a b : Line) : Line := (a.zip b).map fun p => joinE p.1 p.2
def metL (a b : Line) : Line := (a.zip b).map fun p => metE p.1 p.2
theorem cut_lo {α : Type} (l : List α) (k : Nat) : cutA l none (some (k : Int)) = l.take k := by
  simp only [cutA, clip, List.drop_zero, Nat.sub_zero]
  rw [if_neg (by omega)]
  rw [Int.toNat_natCast]
  rcases Nat.le_total k l.length with h | h
  · rw [Nat.min_eq_left h]
  · rw [Nat.min_eq_right h, List.take_length, List.take_of_length_le h]
theorem cut_hi {α : Type} (l : List α) (k : Nat) : cutA l (some (k : Int)) none = l.drop k := by
  simp only [cutA, clip]
  rw [if_neg (by omega), Int.toNat_natCast]
  rcases Nat.le_total k l.length with h | h
  · rw [Nat.min_eq_left h]
    exact List.take_of_length_le (by simp)
  · rw [Nat.min_eq_right h, List.drop_length, List.drop_of_length_le h]
    simp
section
variable {T : Nat → Option FnD} {d : Nat}
theorem with_entry_ok (h9 : T 9 = some f_with_entry) (l : Line) (k : Nat) (v : Ent) (hk : k < l.length) (hl : l.length ≤ 1000) (st : Sto) :
    run T (d + 1) 9 [.v (encL l), .v (.int k), .v (encE v)] st = .ok (.v (encL (l.set k v))) st := by
  refine run_rt h9 rfl ?_ rfl
  simp only [f_with_entry, b_with_entry, sSeq_eq, sRet_eq, eTup_eq, esStar_eq, eSl_eq, eVar_eq, List.map_cons, List.map_nil, List.replicate, List.cons_append, List.nil_append, List.getElem?_cons_zero, List.getElem?_cons_succ, bind_ok, partO_none, partO_some, vw_v, Option.bind_some, encL, fSl, ofV_some, A.seq, of_some, esCons_eq, eOp2_eq, eCon_eq, op2_v, fAdd_int, esNil_eq, List.append_nil]
  have e1 : (k : Int) + 1 = ((k + 1 : Nat) : Int) := by omega
  rw [cut_lo, e1, cut_hi]
  have hv : vals (((l.map encE).take k).map PV.W.v ++ .v (encE v) :: ((l.map encE).drop (k + 1)).map PV.W.v) = some ((l.set k v).map encE) := by
    rw [show ((l.map encE).take k).map PV.W.v ++ .v (encE v) :: ((l.map encE).drop (k + 1)).map PV.W.v = ((l.set k v).map encE).map PV.W.v by
      rw [List.set_eq_take_append_cons_drop, if_pos hk]
      simp [List.map_take, List.map_drop]]
    exact vals_map_v _
  rw [disp_ok hv (by rw [List.length_map, List.length_set]; exact Nat.le_trans hl (by decide))]
  rfl
theorem met_ok (h11 : T 11 = some f_met) (a b : Line) (ha : a.length ≤ Sz) (st : Sto) : run T (d + 1) 11 [.v (encL a), .v (encL b)] st = .ok (.v (encL (metL a b))) st := by
  refine run_rt h11 rfl ?_ rfl
  have hz : ((a.zip b).map fun p => A.tup [encE p.1, encE p.2]).length ≤ Sz := by rw [List.length_map]; exact Nat.le_trans (zip_len a b) ha
  have hit : itZip2 (eVar 0) (eVar 1) (run T d) [some (.v (encL a)), some (.v (encL b)), none, none, none, none] st = .ok ((a.zip b).map fun p => A.tup [encE p.1, encE p.2], fun _ => true && true) st := by
    simp only [itZip2_eq, eVar_eq, List.getElem?_cons_zero, List.getElem?_cons_succ, bind_ok, zips2, encL, srcq_tup, zip2_map, itms_some _ hz]
  show b_met (run T d) [some (.v (encL a)), some (.v (encL b)), none, none, none, none] st = _
  unfold b_met
  refine sZipR_yes (a.zip b) _ (fun p => encE (metE p.1 p.2)) hit rfl (fun p hp => ?_) (by rw [bTuple]; unfold encL metL; rw [List.map_map]; rfl)
  obtain ⟨v, w⟩ := p
  refine ⟨_, rfl, ?_⟩
  cases v <;> cases w <;> simp [encE, metE, A.same, wipe, bMin]
theorem joined_ok (h10 : T 10 = some f_joined) (a b : Line) (ha : a.length ≤ Sz) (st : Sto) : run T (d + 1) 10 [.v (encL a), .v (encL b)] st = .ok (.v (encL (joinL a b))) st := by
  refine run_rt h10 rfl ?_ rfl
  have hz : ((a.zip b).map fun p => A.tup [encE p.1, encE p.2]).length ≤ Sz := by rw [List.length_map]; exact Nat.le_trans (zip_len a b) ha
  have hit : itZip2 (eVar 0) (eVar 1) (run T d) [some (.v (encL a)), some (.v (encL b)), none, none, none, none] st = .ok ((a.zip b).map fun p => A.tup [encE p.1, encE p.2], fun _ => true && true) st := by
    simp only [itZip2_eq, eVar_eq, List.getElem?_cons_zero, List.getElem?_cons_succ, bind_ok, zips2, encL, srcq_tup, zip2_map, itms_some _ hz]
  show b_joined (run T d) [some (.v (encL a)), some (.v (encL b)), none, none, none, none] st = _
  unfold b_joined
  refine sZipR_yes (a.zip b) _ (fun p => encE (joinE p.1 p.2)) hit rfl (fun p hp => ?_) (by rw [bTuple]; unfold encL joinL; rw [List.map_map]; rfl)
  obtain ⟨v, w⟩ := p
  refine ⟨_, rfl, ?_⟩
  cases v <;> cases w <;> simp [encE, joinE, A.same, wipe, bMax]
/-- (v,) * n -/
theorem rep_one_L (a : A) (n : Nat) : rep [a] n = List.replicate n a := by
  unfold rep
  induction n with
  | zero => rfl
  | succ n ih => rw [List.replicate_succ, List.flatten_cons, ih]; rfl
theorem fMul_one (a : A) (n : Nat) (hn : n ≤ 1000) : fMul (.tup [a]) (.int n) = some (.tup (List.replicate n a)) := by
  show (if (decide ((n : Int) ≤ 1000) && decide (-1000 ≤ (n : Int)) && decide ([a].length ≤ 1000)) = true then some (A.tup (rep [a] (n : Int).toNat)) else none) = _
  rw [decide_eq_true (by omega), decide_eq_true (by omega), Int.toNat_natCast, rep_one_L]
  rfl
/-- v at one place, w at all others -/
def oneE (n : Nat) (w : Ent) (k : Nat) (v : Ent) : Line := (List.replicate n w).set k v
def belowN (n : Nat) (l : Line) : List Line := (l.zipIdx.filter fun p => match p.1 with
  | some i => decide (i > 0)
  | none => false).map fun p => oneE n none p.2 (p.1.map (· - 1))
def aboveN (n : Nat) (l : Line) : List Line := (l.zipIdx.filter fun p => p.1.isSome).map fun p => oneE n (some 0) p.2 (p.1.map (· + 1))
theorem zipIdx_lt {α : Type} {l : List α} {p : α × Nat} (h : p ∈ l.zipIdx) : p.2 < l.length := by
  obtain ⟨a, i⟩ := p
  have := List.mem_zipIdx h
  omega
theorem itEnum_ok {i : Nat} {O : Orc} {env : Env} {st : Sto} {l : Line} (hi : env[i]? = some (some (.v (encL l)))) (hl : l.length ≤ Sz) : itEnum (eVar i) O env st = .ok (l.zipIdx.map fun p => .tup [.int p.2, encE p.1], fun _ => true) st := by
  rw [itEnum_eq, eVar_eq, hi]
  simp only [bind_ok, enums, encL, srcq_tup]
  rw [enumA_map, itms_some _ (by simpa using hl)]
theorem below_none_ok (h9 : T 9 = some f_with_entry) (h13 : T 13 = some f_below_none) {n : Nat} (hn : n ≤ 1000) (l : Line) (hl : l.length = n) (hi : ∀ v ∈ l, v ≠ none) (st : Sto) :
    run T (d + 2) 13 [.v (.int n), .v (encL l)] st = .ok (.v (encLs (belowN n l))) st := by
  refine run_rt h13 rfl ?_ rfl
  have hw : encL (List.replicate n none) = .tup (List.replicate n .non) := by unfold encL; rw [List.map_replicate]; rfl
  have hlc := eLc_map (it := itEnum (eVar 1)) (tg := .tup [.slot 4, .slot 5]) (own := [3, 4, 5]) (t := tEx (eOp2 fGt (eVar 5) (eCon (.int 0)))) (x := eCall 9 (esDef (esCons (eVar 2) (esCons (eVar 4) (esCons (eOp2 fSub (eVar 5) (eCon (.int 1))) esNil))) [])) (O := run T (d + 1)) (env := [some (.v (.int n)), some (.v (encL l)), some (.v (encL (List.replicate n none))), none, none, none]) (st := st) l.zipIdx (fun p => .tup [.int p.2, encE p.1]) (fun p => match p.1 with
    | some i => decide (i > 0)
    | none => false) (fun p => encL (oneE n none p.2 (p.1.map (· - 1)))) (itEnum_ok rfl (by rw [hl]; exact Nat.le_trans hn (by decide))) rfl (by
    rintro ⟨v, k⟩ hp
    have hk : k < l.length := zipIdx_lt hp
    have hv : v ≠ none := hi v (by have := (List.mem_zipIdx hp).2.2; rw [this]; exact List.getElem_mem _)
    cases v with
    | none => exact absurd rfl hv
    | some i =>
      refine ⟨_, rfl, by simp [encE, wipe], fun _ => ?_⟩
      have := with_entry_ok (d := d) h9 (List.replicate n none) k (some (i - 1)) (by rw [List.length_replicate]; omega) (by simpa using hn) st
      simpa [encE, wipe, oneE] using this)
  simp only [f_below_none, b_below_none, sSeq_eq, sSet_eq, eOp2_eq, eTup_eq, esCons_eq, eCon_eq, esNil_eq, eVar_eq, List.map_cons, List.map_nil, List.replicate, List.cons_append, List.nil_append, List.getElem?_cons_zero, bind_ok, disp1, op2_v, fMul_one _ _ hn, ofV_some, to_ok, List.set, seq_nx, sRet_eq, ← hw]
  rw [hlc]
  simp only [to_ok, seq_rt, encLs, belowN, List.map_map]
  rfl
theorem above_all_ok (h9 : T 9 = some f_with_entry) (h16 : T 16 = some f_above_all) {n : Nat} (hn : n ≤ 1000) (l : Line) (hl : l.length = n) (st : Sto) :
    run T (d + 2) 16 [.v (.int n), .v (encL l)] st = .ok (.v (encLs (aboveN n l))) st := by
  refine run_rt h16 rfl ?_ rfl
  have hw : encL (List.replicate n (some 0)) = .tup (List.replicate n (.int 0)) := by unfold encL; rw [List.map_replicate]; rfl
  have hlc := eLc_map (it := itEnum (eVar 1)) (tg := .tup [.slot 4, .slot 5]) (own := [3, 4, 5]) (t := tEx (eOp2 fIsn (eVar 5) (eCon .non))) (x := eCall 9 (esDef (esCons (eVar 2) (esCons (eVar 4) (esCons (eOp2 fAdd (eVar 5) (eCon (.int 1))) esNil))) [])) (O := run T (d + 1)) (env := [some (.v (.int n)), some (.v (encL l)), some (.v (encL (List.replicate n (some 0)))), none, none, none]) (st := st) l.zipIdx (fun p => .tup [.int p.2, encE p.1]) (fun p => p.1.isSome) (fun p => encL (oneE n (some 0) p.2 (p.1.map (· + 1)))) (itEnum_ok rfl (by rw [hl]; exact Nat.le_trans hn (by decide))) rfl (by
    rintro ⟨v, k⟩ hp
    have hk : k < l.length := zipIdx_lt hp
    cases v with
    | none => exact ⟨_, rfl, by simp [encE, wipe, A.same], fun h => nomatch h⟩
    | some i =>
      refine ⟨_, rfl, by simp [encE, wipe, A.same], fun _ => ?_⟩
      have := with_entry_ok (d := d) h9 (List.replicate n (some 0)) k (some (i + 1)) (by rw [List.length_replicate]; omega) (by simpa using hn) st
      simpa [encE, wipe, oneE] using this)
  simp only [f_above_all, b_above_all, sSeq_eq, sSet_eq, eOp2_eq, eTup_eq, esCons_eq, eCon_eq, esNil_eq, eVar_eq, List.map_cons, List.map_nil, List.replicate, List.cons_append, List.nil_append, List.getElem?_cons_zero, bind_ok, disp1, op2_v, fMul_one _ _ hn, ofV_some, to_ok, List.set, seq_nx, sRet_eq, ← hw]
  rw [hlc]
  simp only [to_ok, seq_rt, encLs, aboveN, List.map_map]
  rfl
end
end PV
end
section
set_option linter.all false
set_option Elab.async false
/-! PL6: all that lies outside. -/
namespace PV
def gAmong (ls : List Line) : List Line := (keepL (fun one l => noGt l one) (ordL ls).reverse []).reverse
def lAmong (ls : List Line) : List Line := keepL noGt (ordL ls) []
def candA (n : Nat) (found : List Line) (line : Line) : List Line := (found.filter fun one => noGt line one).flatMap fun one => (belowN n line).map (metL one)
def candB (n : Nat) (found : List Line) (line : Line) : List Line := (found.filter fun one => noGt one line).flatMap fun one => (aboveN n line).map (joinL one)
def stepA (n : Nat) (found : List Line) (line : Line) : List Line := found.filter (fun one => !noGt line one) ++ (gAmong (candA n found line)).filter fun one => !(found.filter fun one => !noGt line one).any fun its => noGt one its
def stepB_L (n : Nat) (found : List Line) (line : Line) : List Line := found.filter (fun one => !noGt one line) ++ (lAmong (candB n found line)).filter fun one => !(found.filter fun one => !noGt one line).any fun its => noGt its one
def outA (n : Nat) (ls : List Line) : List Line := ls.foldl (stepA n) [List.replicate n none]
def outB (n : Nat) (ls : List Line) : List Line := ls.foldl (stepB_L n) [List.replicate n (some 0)]
theorem keepL_sub (r : Line → Line → Bool) : ∀ (ls acc : List Line) (x : Line), x ∈ keepL r ls acc → x ∈ acc ∨ x ∈ ls
  | [], acc, x, h => .inl h
  | l :: ls, acc, x, h => by
    rcases keepL_sub r ls _ x h with h | h
    · split at h
      · exact .inl h
      · rcases List.mem_append.mp h with h | h
        · exact .inl h
        · rw [show x = l by simpa using h]; exact .inr List.mem_cons_self
    · exact .inr (List.mem_cons_of_mem _ h)
theorem gAmong_sub {ls : List Line} {x : Line} (h : x ∈ gAmong ls) : x ∈ ls := by
  have := keepL_sub _ _ _ x (List.mem_reverse.mp h)
  rcases this with h | h
  · cases h
  · exact mem_ordL.mp (List.mem_reverse.mp h)
theorem lAmong_sub {ls : List Line} {x : Line} (h : x ∈ lAmong ls) : x ∈ ls := by
  have := keepL_sub _ _ _ x h
  rcases this with h | h
  · cases h
  · exact mem_ordL.mp h
theorem keepL_len (r : Line → Line → Bool) : ∀ (ls acc : List Line), (keepL r ls acc).length ≤ acc.length + ls.length
  | [], acc => by simp [keepL]
  | l :: ls, acc => by
    have := keepL_len r ls (if acc.any fun one => r one l then acc else acc ++ [l])
    have h2 : (if acc.any fun one => r one l then acc else acc ++ [l]).length ≤ acc.length + 1 := by split <;> simp
    unfold keepL
    rw [List.length_cons]
    omega
theorem gAmong_len (ls : List Line) : (gAmong ls).length ≤ ls.length := by
  have := keepL_len (fun one l => noGt l one) (ordL ls).reverse []
  have h2 := len_ordL ls
  unfold gAmong
  rw [List.length_reverse]
  simp at this
  omega
theorem lAmong_len (ls : List Line) : (lAmong ls).length ≤ ls.length := by
  have := keepL_len noGt (ordL ls) []
  have h2 := len_ordL ls
  unfold lAmong
  simp at this
  omega
theorem wide_metL {n : Nat} {a b : Line} (ha : a.length = n) (hb : b.length = n) : (metL a b).length = n := by simp [metL, ha, hb]
theorem wide_joinL {n : Nat} {a b : Line} (ha : a.length = n) (hb : b.length = n) : (joinL a b).length = n := by simp [joinL, ha, hb]
theorem wide_belowN {n : Nat} {l x : Line} (h : x ∈ belowN n l) : x.length = n := by
  obtain ⟨p, _, rfl⟩ := List.mem_map.mp h
  simp [oneE]
theorem wide_aboveN {n : Nat} {l x : Line} (h : x ∈ aboveN n l) : x.length = n := by
  obtain ⟨p, _, rfl⟩ := List.mem_map.mp h
  simp [oneE]
theorem len_belowN (n : Nat) (l : Line) : (belowN n l).length ≤ l.length := by
  unfold belowN
  rw [List.length_map]
  exact Nat.le_trans (List.length_filter_le _ _) (by simp)
theorem len_aboveN (n : Nat) (l : Line) : (aboveN n l).length ≤ l.length := by
  unfold aboveN
  rw [List.length_map]
  exact Nat.le_trans (List.length_filter_le _ _) (by simp)
theorem len_flat {α β : Type} (m : List β) : ∀ l : List α, (l.flatMap fun _ => m).length = l.length * m.length
  | [] => by simp
  | a :: l => by simp [len_flat m l, Nat.add_mul, Nat.add_comm]
theorem len_flatMap {α β γ : Type} (m : List β) (f : α → β → γ) : ∀ l : List α, (l.flatMap fun a => m.map (f a)).length = l.length * m.length
  | [] => by simp
  | a :: l => by simp [len_flatMap m f l, Nat.add_mul, Nat.add_comm]
theorem mem_candA {n : Nat} {found : List Line} {line x : Line} : x ∈ candA n found line ↔ ∃ one ∈ found, noGt line one = true ∧ ∃ p ∈ belowN n line, x = metL one p := by
  unfold candA
  simp only [List.mem_flatMap, List.mem_filter, List.mem_map]
  constructor
  · rintro ⟨one, ⟨h1, h2⟩, p, h3, rfl⟩; exact ⟨one, h1, h2, p, h3, rfl⟩
  · rintro ⟨one, h1, h2, p, h3, rfl⟩; exact ⟨one, ⟨h1, h2⟩, p, h3, rfl⟩
theorem mem_candB {n : Nat} {found : List Line} {line x : Line} : x ∈ candB n found line ↔ ∃ one ∈ found, noGt one line = true ∧ ∃ p ∈ aboveN n line, x = joinL one p := by
  unfold candB
  simp only [List.mem_flatMap, List.mem_filter, List.mem_map]
  constructor
  · rintro ⟨one, ⟨h1, h2⟩, p, h3, rfl⟩; exact ⟨one, h1, h2, p, h3, rfl⟩
  · rintro ⟨one, h1, h2, p, h3, rfl⟩; exact ⟨one, ⟨h1, h2⟩, p, h3, rfl⟩
theorem wide_candA {n : Nat} {found : List Line} {line : Line} (h : Wide n found) : Wide n (candA n found line) := fun x hx => by
  obtain ⟨one, h1, _, p, h3, rfl⟩ := mem_candA.mp hx
  exact wide_metL (h one h1) (wide_belowN h3)
theorem wide_candB {n : Nat} {found : List Line} {line : Line} (h : Wide n found) : Wide n (candB n found line) := fun x hx => by
  obtain ⟨one, h1, _, p, h3, rfl⟩ := mem_candB.mp hx
  exact wide_joinL (h one h1) (wide_aboveN h3)
theorem wide_stepA {n : Nat} {found : List Line} {line : Line} (h : Wide n found) : Wide n (stepA n found line) := fun x hx => by
  rcases List.mem_append.mp hx with hx | hx
  · exact h x (List.mem_filter.mp hx).1
  · exact wide_candA h x (gAmong_sub (List.mem_filter.mp hx).1)
theorem wide_stepB {n : Nat} {found : List Line} {line : Line} (h : Wide n found) : Wide n (stepB_L n found line) := fun x hx => by
  rcases List.mem_append.mp hx with hx | hx
  · exact h x (List.mem_filter.mp hx).1
  · exact wide_candB h x (lAmong_sub (List.mem_filter.mp hx).1)
theorem wide_outA (n : Nat) : ∀ (ls found : List Line), Wide n found → Wide n (ls.foldl (stepA n) found)
  | [], _, h => h
  | _ :: ls, _, h => wide_outA n ls _ (wide_stepA h)
theorem wide_outB (n : Nat) : ∀ (ls found : List Line), Wide n found → Wide n (ls.foldl (stepB_L n) found)
  | [], _, h => h
  | _ :: ls, _, h => wide_outB n ls _ (wide_stepB h)
section
variable {T : Nat → Option FnD} {d : Nat}
/-- where the defs of lines stand -/
structure LinesT (T : Nat → Option FnD) : Prop where
  t4 : T 4 = some f_is_no_greater
  t5 : T 5 = some f_order_of
  t6 : T 6 = some f_ordered
  t7 : T 7 = some f_least_among
  t8 : T 8 = some f_greatest_among
  t9 : T 9 = some f_with_entry
  t10 : T 10 = some f_joined
  t11 : T 11 = some f_met
  t12 : T 12 = some f_let_lines
  t13 : T 13 = some f_below_none
  t14 : T 14 = some f_all_outside_above
  t15 : T 15 = some f_outside_above
  t16 : T 16 = some f_above_all
  t17 : T 17 = some f_outside_below
def big : Nat := 1000000
theorem vals_app {l m : List PV.W} {a b : List A} (h1 : vals l = some a) (h2 : vals m = some b) : vals (l ++ m) = some (a ++ b) := by
  induction l generalizing a with
  | nil => cases h1; exact h2
  | cons w l ih =>
    cases w with
    | v x =>
      rw [vals_cons] at h1
      cases e : vals l with
      | none => rw [e] at h1; cases h1
      | some c =>
        rw [e] at h1
        cases h1
        rw [List.cons_append, vals_cons, ih e]
        rfl
    | cel _ => simp [vals, PV.W.val] at h1
    | lam _ _ => simp [vals, PV.W.val] at h1
theorem stepA_ok (h : LinesT T) {n : Nat} (hn : n + 1 ≤ 10) {found : List Line} {line : Line} (hw : Wide (n + 1) found) (hl : line.length = n + 1) (hi : ∀ v ∈ line, v ≠ none) (hb : found.length ≤ big) {a0 a1 : PV.W} {x4 x5 x6 : Option PV.W} (h0 : a0 = .v (.int (n + 1 : Nat))) {st : Sto} (hp : plainSto st = true) :
    (sSeq (sPar 4 5 (eLc (itSeq (eVar 2)) (.slot 8) [7, 8] (PV.tNot (tEx (eCall 4 (esDef (esCons (eVar 3) (esCons (eVar 8) esNil)) [])))) (eVar 8)) (eCall 13 (esDef (esCons (eVar 0) (esCons (eVar 3) esNil)) []))) (sSeq (sSet 6 (eCall 8 (esDef (esCons (eLc2 (itSeq (eVar 2)) (.slot 8) [7, 8, 9] (tEx (eCall 4 (esDef (esCons (eVar 3) (esCons (eVar 8) esNil)) []))) (itSeq (eVar 5)) (.slot 9) [9] PV.tYes (eCall 11 (esDef (esCons (eVar 8) (esCons (eVar 9) esNil)) []))) esNil) []))) (sSeq (sSet 2 (eLst (esStar (eVar 4) (esStar (eLc (itSeq (eVar 6)) (.slot 8) [7, 8] (PV.tNot (tEx (eFn bAny (esCons (eLc (itSeq (eVar 4)) (.slot 10) [7, 10] PV.tYes (eCall 4 (esDef (esCons (eVar 8) (esCons (eVar 10) esNil)) []))) esNil)))) (eVar 8)) esNil)))) sNil)))
      (run T (d + 3)) [some a0, some a1, some (.v (encLs found)), some (.v (encL line)), x4, x5, x6, none, none, none, none] st =
    .nx [some a0, some a1, some (.v (encLs (stepA (n + 1) found line))), some (.v (encL line)), some (.v (encLs (found.filter fun one => !noGt line one))), some (.v (encLs (belowN (n + 1) line))), some (.v (encLs (gAmong (candA (n + 1) found line)))), none, none, none, none] st := by
  subst h0
  have hfs : found.length ≤ Sz := Nat.le_trans hb (by decide)
  have small : ∀ {l : Line}, l.length = n + 1 → l.length ≤ Sz := fun h => by rw [h]; exact Nat.le_trans hn (by decide)
  have k1 := eLc_map (it := itSeq (eVar 2)) (tg := .slot 8) (own := [7, 8]) (t := PV.tNot (tEx (eCall 4 (esDef (esCons (eVar 3) (esCons (eVar 8) esNil)) [])))) (x := eVar 8) (O := run T (d + 3)) (env := [some (.v (.int (n + 1 : Nat))), some a1, some (.v (encLs found)), some (.v (encL line)), x4, x5, x6, none, none, none, none]) (st := st) found encL (fun one => !noGt line one) encL (itSeq_lst rfl (by simpa using hfs)) rfl (by
    intro one ho
    refine ⟨_, rfl, ?_, fun _ => rfl⟩
    have e := is_no_greater_ok (d := d + 2) h.t4 line one (small hl) st
    simp [wipe]
    rw [e]
    rfl)
  have k2 : run T (d + 3) 13 [.v (.int (n + 1 : Nat)), .v (encL line)] st = .ok (.v (encLs (belowN (n + 1) line))) st := below_none_ok h.t9 h.t13 (by omega) line hl hi st
  have hparts : (belowN (n + 1) line).length ≤ 10 := by have := len_belowN (n + 1) line; omega
  have hcand : (candA (n + 1) found line).length ≤ big * 10 := by
    unfold candA
    rw [len_flatMap]
    exact Nat.mul_le_mul (Nat.le_trans (List.length_filter_le _ _) hb) hparts
  have k3 := eLc2_map (it := itSeq (eVar 2)) (tg := .slot 8) (own := [7, 8, 9]) (t := tEx (eCall 4 (esDef (esCons (eVar 3) (esCons (eVar 8) esNil)) []))) (it1 := itSeq (eVar 5)) (tg1 := .slot 9) (own1 := [9]) (x := eCall 11 (esDef (esCons (eVar 8) (esCons (eVar 9) esNil)) [])) (O := run T (d + 3)) (env := [some (.v (.int (n + 1 : Nat))), some a1, some (.v (encLs found)), some (.v (encL line)), some (.v (encLs (found.filter fun one => !noGt line one))), some (.v (encLs (belowN (n + 1) line))), x6, none, none, none, none]) (st := st) found encL (fun one => noGt line one) (fun _ => belowN (n + 1) line) encL (fun one p => encL (metL one p)) (itSeq_lst rfl (by simpa using hfs)) rfl (by
      rw [len_flat]
      refine Nat.le_trans (Nat.mul_le_mul (Nat.le_trans (List.length_filter_le _ _) hb) hparts) (by decide)) (by
    intro one ho
    refine ⟨_, rfl, ?_, fun _ => ⟨_, itSeq_lst rfl (by simp; exact Nat.le_trans hparts (by decide)), rfl, fun p hp => ⟨_, rfl, ?_⟩⟩⟩
    · have e := is_no_greater_ok (d := d + 2) h.t4 line one (small hl) st
      simp [wipe]
      rw [e]
      rfl
    · have := met_ok (d := d + 2) h.t11 one p (small (hw one ho)) st
      simpa [wipe] using this)
  have hcm : (found.filter fun one => noGt line one).flatMap (fun one => (belowN (n + 1) line).map fun p => encL (metL one p)) = (candA (n + 1) found line).map encL := by
    unfold candA
    rw [List.map_flatMap]
    simp only [List.map_map]
    rfl
  rw [hcm] at k3
  have k4 : run T (d + 3) 8 [.v (.lst ((candA (n + 1) found line).map encL))] st = .ok (.v (encLs (gAmong (candA (n + 1) found line)))) st :=
    greatest_among_ok h.t4 h.t5 h.t6 h.t8 (.inl rfl) (wide_candA hw) (by omega) (Nat.lt_of_le_of_lt hcand (by decide)) hp
  have hlater : (gAmong (candA (n + 1) found line)).length ≤ big * 10 := Nat.le_trans (gAmong_len _) hcand
  have hwl : Wide (n + 1) (gAmong (candA (n + 1) found line)) := fun x hx => wide_candA hw x (gAmong_sub hx)
  have k5 := eLc_map (it := itSeq (eVar 6)) (tg := .slot 8) (own := [7, 8]) (t := PV.tNot (tEx (eFn bAny (esCons (eLc (itSeq (eVar 4)) (.slot 10) [7, 10] PV.tYes (eCall 4 (esDef (esCons (eVar 8) (esCons (eVar 10) esNil)) []))) esNil)))) (x := eVar 8) (O := run T (d + 3)) (env := [some (.v (.int (n + 1 : Nat))), some a1, some (.v (encLs found)), some (.v (encL line)), some (.v (encLs (found.filter fun one => !noGt line one))), some (.v (encLs (belowN (n + 1) line))), some (.v (encLs (gAmong (candA (n + 1) found line)))), none, none, none, none]) (st := st) (gAmong (candA (n + 1) found line)) encL (fun one => !(found.filter fun one => !noGt line one).any fun its => (noGt one its)) encL (itSeq_lst rfl (by rw [List.length_map]; exact Nat.le_trans hlater (by decide))) rfl (by
    intro one ho
    refine ⟨_, rfl, ?_, fun _ => rfl⟩
    have k6 := eLc_yes (it := itSeq (eVar 4)) (tg := .slot 10) (own := [7, 10]) (x := eCall 4 (esDef (esCons (eVar 8) (esCons (eVar 10) esNil)) [])) (O := run T (d + 3)) (env := [some (.v (.int (n + 1 : Nat))), some a1, some (.v (encLs found)), some (.v (encL line)), some (.v (encLs (found.filter fun one => !noGt line one))), some (.v (encLs (belowN (n + 1) line))), some (.v (encLs (gAmong (candA (n + 1) found line)))), none, some (.v (encL one)), none, none]) (st := st) (found.filter fun one => !noGt line one) encL (fun its => .bl (noGt one its)) (itSeq_lst rfl (by rw [List.length_map]; exact Nat.le_trans (List.length_filter_le _ _) hfs)) rfl (by
      intro its hi
      refine ⟨_, rfl, ?_⟩
      have := is_no_greater_ok (d := d + 2) h.t4 one its (small (hwl one ho)) st
      simpa [wipe] using this)
    simp only [tNot_eq, tEx_eq, eFn_eq, esCons_eq, esNil_eq, wipe, List.foldr, List.set]
    rw [k6]
    simp only [bind_ok, opL_1, bAny_map, ofV_some, truthW_bl])
  have hvl : vals ((encLs (found.filter fun one => !noGt line one)).seq.getD [] |>.map PV.W.v) = some ((found.filter fun one => !noGt line one).map encL) := vals_map_v _
  simp only [sSeq_eq, sPar_eq]
  rw [k1]
  simp only [to_ok, eCall_eq, esDef_eq, esCons_eq, esNil_eq, eVar_eq, List.getElem?_cons_zero, List.getElem?_cons_succ, bind_ok, List.map_nil, List.append_nil]
  rw [k2]
  simp only [to_ok, seq_nx, List.set, sSet_eq, sSeq_eq]
  have k3' := k3
  simp only [encLs] at k3'
  simp only [eCall_eq, esDef_eq, esCons_eq, esNil_eq, List.map_nil, List.append_nil, encLs] at k3' ⊢
  rw [k3']
  simp only [bind_ok]
  rw [k4]
  simp only [encLs, to_ok, seq_nx, List.set, sSeq_eq, sSet_eq, eLst_eq, esStar_eq, eVar_eq, List.getElem?_cons_zero, List.getElem?_cons_succ, bind_ok, vw_v, Option.bind_some, A.seq, of_some]
  simp only [encLs] at k5
  rw [k5]
  simp only [bind_ok, vw_v, Option.bind_some, A.seq, of_some, esNil_eq, List.append_nil]
  rw [disp_ok (vals_app (vals_map_v _) (vals_map_v _)) (by
    rw [List.length_append, List.length_map, List.length_map]
    have h1 := List.length_filter_le (fun one => !noGt line one) found
    have h2 := List.length_filter_le (fun one => !(found.filter fun one => !noGt line one).any fun its => (noGt one its)) (gAmong (candA (n + 1) found line))
    have : big + big * 10 ≤ Sz := by decide
    omega)]
  simp only [to_ok, seq_nx, List.set, sNil_eq, stepA, List.map_append]
theorem stepB_ok_L (h : LinesT T) {n : Nat} (hn : n + 1 ≤ 10) {found : List Line} {line : Line} (hw : Wide (n + 1) found) (hl : line.length = n + 1) (hb : found.length ≤ big) {a0 a1 : PV.W} {x4 x5 x6 : Option PV.W} (h0 : a0 = .v (.int (n + 1 : Nat))) {st : Sto} (hp : plainSto st = true) :
    (sSeq (sPar 4 5 (eLc (itSeq (eVar 2)) (.slot 8) [7, 8] (PV.tNot (tEx (eCall 4 (esDef (esCons (eVar 8) (esCons (eVar 3) esNil)) [])))) (eVar 8)) (eCall 16 (esDef (esCons (eVar 0) (esCons (eVar 3) esNil)) []))) (sSeq (sSet 6 (eCall 7 (esDef (esCons (eLc2 (itSeq (eVar 2)) (.slot 8) [7, 8, 9] (tEx (eCall 4 (esDef (esCons (eVar 8) (esCons (eVar 3) esNil)) []))) (itSeq (eVar 5)) (.slot 9) [9] PV.tYes (eCall 10 (esDef (esCons (eVar 8) (esCons (eVar 9) esNil)) []))) esNil) []))) (sSeq (sSet 2 (eLst (esStar (eVar 4) (esStar (eLc (itSeq (eVar 6)) (.slot 8) [7, 8] (PV.tNot (tEx (eFn bAny (esCons (eLc (itSeq (eVar 4)) (.slot 10) [7, 10] PV.tYes (eCall 4 (esDef (esCons (eVar 10) (esCons (eVar 8) esNil)) []))) esNil)))) (eVar 8)) esNil)))) sNil)))
      (run T (d + 3)) [some a0, some a1, some (.v (encLs found)), some (.v (encL line)), x4, x5, x6, none, none, none, none] st =
    .nx [some a0, some a1, some (.v (encLs (stepB_L (n + 1) found line))), some (.v (encL line)), some (.v (encLs (found.filter fun one => !noGt one line))), some (.v (encLs (aboveN (n + 1) line))), some (.v (encLs (lAmong (candB (n + 1) found line)))), none, none, none, none] st := by
  subst h0
  have hfs : found.length ≤ Sz := Nat.le_trans hb (by decide)
  have small : ∀ {l : Line}, l.length = n + 1 → l.length ≤ Sz := fun h => by rw [h]; exact Nat.le_trans hn (by decide)
  have k1 := eLc_map (it := itSeq (eVar 2)) (tg := .slot 8) (own := [7, 8]) (t := PV.tNot (tEx (eCall 4 (esDef (esCons (eVar 8) (esCons (eVar 3) esNil)) [])))) (x := eVar 8) (O := run T (d + 3)) (env := [some (.v (.int (n + 1 : Nat))), some a1, some (.v (encLs found)), some (.v (encL line)), x4, x5, x6, none, none, none, none]) (st := st) found encL (fun one => !noGt one line) encL (itSeq_lst rfl (by simpa using hfs)) rfl (by
    intro one ho
    refine ⟨_, rfl, ?_, fun _ => rfl⟩
    have e := is_no_greater_ok (d := d + 2) h.t4 one line (small (hw one ho)) st
    simp [wipe]
    rw [e]
    rfl)
  have k2 : run T (d + 3) 16 [.v (.int (n + 1 : Nat)), .v (encL line)] st = .ok (.v (encLs (aboveN (n + 1) line))) st := above_all_ok h.t9 h.t16 (by omega) line hl st
  have hparts : (aboveN (n + 1) line).length ≤ 10 := by have := len_aboveN (n + 1) line; omega
  have hcand : (candB (n + 1) found line).length ≤ big * 10 := by
    unfold candB
    rw [len_flatMap]
    exact Nat.mul_le_mul (Nat.le_trans (List.length_filter_le _ _) hb) hparts
  have k3 := eLc2_map (it := itSeq (eVar 2)) (tg := .slot 8) (own := [7, 8, 9]) (t := tEx (eCall 4 (esDef (esCons (eVar 8) (esCons (eVar 3) esNil)) []))) (it1 := itSeq (eVar 5)) (tg1 := .slot 9) (own1 := [9]) (x := eCall 10 (esDef (esCons (eVar 8) (esCons (eVar 9) esNil)) [])) (O := run T (d + 3)) (env := [some (.v (.int (n + 1 : Nat))), some a1, some (.v (encLs found)), some (.v (encL line)), some (.v (encLs (found.filter fun one => !noGt one line))), some (.v (encLs (aboveN (n + 1) line))), x6, none, none, none, none]) (st := st) found encL (fun one => noGt one line) (fun _ => aboveN (n + 1) line) encL (fun one p => encL (joinL one p)) (itSeq_lst rfl (by simpa using hfs)) rfl (by
      rw [len_flat]
      refine Nat.le_trans (Nat.mul_le_mul (Nat.le_trans (List.length_filter_le _ _) hb) hparts) (by decide)) (by
    intro one ho
    refine ⟨_, rfl, ?_, fun _ => ⟨_, itSeq_lst rfl (by simp; exact Nat.le_trans hparts (by decide)), rfl, fun p hp => ⟨_, rfl, ?_⟩⟩⟩
    · have e := is_no_greater_ok (d := d + 2) h.t4 one line (small (hw one ho)) st
      simp [wipe]
      rw [e]
      rfl
    · have := joined_ok (d := d + 2) h.t10 one p (small (hw one ho)) st
      simpa [wipe] using this)
  have hcm : (found.filter fun one => noGt one line).flatMap (fun one => (aboveN (n + 1) line).map fun p => encL (joinL one p)) = (candB (n + 1) found line).map encL := by
    unfold candB
    rw [List.map_flatMap]
    simp only [List.map_map]
    rfl
  rw [hcm] at k3
  have k4 : run T (d + 3) 7 [.v (.lst ((candB (n + 1) found line).map encL))] st = .ok (.v (encLs (lAmong (candB (n + 1) found line)))) st :=
    least_among_ok h.t4 h.t5 h.t6 h.t7 (.inl rfl) (wide_candB hw) (by omega) (Nat.lt_of_le_of_lt hcand (by decide)) hp
  have hlater : (lAmong (candB (n + 1) found line)).length ≤ big * 10 := Nat.le_trans (lAmong_len _) hcand
  have hwl : Wide (n + 1) (lAmong (candB (n + 1) found line)) := fun x hx => wide_candB hw x (lAmong_sub hx)
  have k5 := eLc_map (it := itSeq (eVar 6)) (tg := .slot 8) (own := [7, 8]) (t := PV.tNot (tEx (eFn bAny (esCons (eLc (itSeq (eVar 4)) (.slot 10) [7, 10] PV.tYes (eCall 4 (esDef (esCons (eVar 10) (esCons (eVar 8) esNil)) []))) esNil)))) (x := eVar 8) (O := run T (d + 3)) (env := [some (.v (.int (n + 1 : Nat))), some a1, some (.v (encLs found)), some (.v (encL line)), some (.v (encLs (found.filter fun one => !noGt one line))), some (.v (encLs (aboveN (n + 1) line))), some (.v (encLs (lAmong (candB (n + 1) found line)))), none, none, none, none]) (st := st) (lAmong (candB (n + 1) found line)) encL (fun one => !(found.filter fun one => !noGt one line).any fun its => (noGt its one)) encL (itSeq_lst rfl (by rw [List.length_map]; exact Nat.le_trans hlater (by decide))) rfl (by
    intro one ho
    refine ⟨_, rfl, ?_, fun _ => rfl⟩
    have k6 := eLc_yes (it := itSeq (eVar 4)) (tg := .slot 10) (own := [7, 10]) (x := eCall 4 (esDef (esCons (eVar 10) (esCons (eVar 8) esNil)) [])) (O := run T (d + 3)) (env := [some (.v (.int (n + 1 : Nat))), some a1, some (.v (encLs found)), some (.v (encL line)), some (.v (encLs (found.filter fun one => !noGt one line))), some (.v (encLs (aboveN (n + 1) line))), some (.v (encLs (lAmong (candB (n + 1) found line)))), none, some (.v (encL one)), none, none]) (st := st) (found.filter fun one => !noGt one line) encL (fun its => .bl (noGt its one)) (itSeq_lst rfl (by rw [List.length_map]; exact Nat.le_trans (List.length_filter_le _ _) hfs)) rfl (by
      intro its hi
      refine ⟨_, rfl, ?_⟩
      have := is_no_greater_ok (d := d + 2) h.t4 its one (small (hw its (List.mem_filter.mp hi).1)) st
      simpa [wipe] using this)
    simp only [tNot_eq, tEx_eq, eFn_eq, esCons_eq, esNil_eq, wipe, List.foldr, List.set]
    rw [k6]
    simp only [bind_ok, opL_1, bAny_map, ofV_some, truthW_bl])
  have hvl : vals ((encLs (found.filter fun one => !noGt one line)).seq.getD [] |>.map PV.W.v) = some ((found.filter fun one => !noGt one line).map encL) := vals_map_v _
  simp only [sSeq_eq, sPar_eq]
  rw [k1]
  simp only [to_ok, eCall_eq, esDef_eq, esCons_eq, esNil_eq, eVar_eq, List.getElem?_cons_zero, List.getElem?_cons_succ, bind_ok, List.map_nil, List.append_nil]
  rw [k2]
  simp only [to_ok, seq_nx, List.set, sSet_eq, sSeq_eq]
  have k3' := k3
  simp only [encLs] at k3'
  simp only [eCall_eq, esDef_eq, esCons_eq, esNil_eq, List.map_nil, List.append_nil, encLs] at k3' ⊢
  rw [k3']
  simp only [bind_ok]
  rw [k4]
  simp only [encLs, to_ok, seq_nx, List.set, sSeq_eq, sSet_eq, eLst_eq, esStar_eq, eVar_eq, List.getElem?_cons_zero, List.getElem?_cons_succ, bind_ok, vw_v, Option.bind_some, A.seq, of_some]
  simp only [encLs] at k5
  rw [k5]
  simp only [bind_ok, vw_v, Option.bind_some, A.seq, of_some, esNil_eq, List.append_nil]
  rw [disp_ok (vals_app (vals_map_v _) (vals_map_v _)) (by
    rw [List.length_append, List.length_map, List.length_map]
    have h1 := List.length_filter_le (fun one => !noGt one line) found
    have h2 := List.length_filter_le (fun one => !(found.filter fun one => !noGt one line).any fun its => (noGt its one)) (lAmong (candB (n + 1) found line))
    have : big + big * 10 ≤ Sz := by decide
    omega)]
  simp only [to_ok, seq_nx, List.set, sNil_eq, stepB_L, List.map_append]
end
end PV
end
section
set_option linter.all false
set_option Elab.async false
/-! PL7: what is asked of lines. -/
namespace PV
section
variable {T : Nat → Option FnD} {d : Nat}
theorem loopA_ok (h : LinesT T) {n : Nat} (hn : n + 1 ≤ 10) {a0 a1 : PV.W} (h0 : a0 = .v (.int (n + 1 : Nat))) {st : Sto} (hp : plainSto st = true) : ∀ (ls found : List Line) (x3 x4 x5 x6 : Option PV.W), Wide (n + 1) found → Wide (n + 1) ls → (∀ l ∈ ls, ∀ v ∈ l, v ≠ none) →
    (∀ r, r <+: ls → (r.foldl (stepA (n + 1)) found).length ≤ big) → ∃ y3 y4 y5 y6,
    forGo (run T (d + 3)) (.slot 3) (sSeq (sPar 4 5 (eLc (itSeq (eVar 2)) (.slot 8) [7, 8] (PV.tNot (tEx (eCall 4 (esDef (esCons (eVar 3) (esCons (eVar 8) esNil)) [])))) (eVar 8)) (eCall 13 (esDef (esCons (eVar 0) (esCons (eVar 3) esNil)) []))) (sSeq (sSet 6 (eCall 8 (esDef (esCons (eLc2 (itSeq (eVar 2)) (.slot 8) [7, 8, 9] (tEx (eCall 4 (esDef (esCons (eVar 3) (esCons (eVar 8) esNil)) []))) (itSeq (eVar 5)) (.slot 9) [9] PV.tYes (eCall 11 (esDef (esCons (eVar 8) (esCons (eVar 9) esNil)) []))) esNil) []))) (sSeq (sSet 2 (eLst (esStar (eVar 4) (esStar (eLc (itSeq (eVar 6)) (.slot 8) [7, 8] (PV.tNot (tEx (eFn bAny (esCons (eLc (itSeq (eVar 4)) (.slot 10) [7, 10] PV.tYes (eCall 4 (esDef (esCons (eVar 8) (esCons (eVar 10) esNil)) []))) esNil)))) (eVar 8)) esNil)))) sNil))) (fun _ => true) (ls.map encL) [some a0, some a1, some (.v (encLs found)), x3, x4, x5, x6, none, none, none, none] st =
      .nx [some a0, some a1, some (.v (encLs (ls.foldl (stepA (n + 1)) found))), y3, y4, y5, y6, none, none, none, none] st
  | [], found, x3, x4, x5, x6, _, _, _, _ => ⟨x3, x4, x5, x6, rfl⟩
  | l :: ls, found, x3, x4, x5, x6, hw, hl, hi, hb => by
    have hb2 : ∀ r, r <+: ls → (r.foldl (stepA (n + 1)) (stepA (n + 1) found l)).length ≤ big := fun r hr => hb (l :: r) (by simpa using hr)
    obtain ⟨y3, y4, y5, y6, ih⟩ := loopA_ok h hn h0 hp ls (stepA (n + 1) found l) (some (.v (encL l))) (some (.v (encLs (found.filter fun one => !noGt l one)))) (some (.v (encLs (belowN (n + 1) l)))) (some (.v (encLs (gAmong (candA (n + 1) found l))))) (wide_stepA hw) (fun x hx => hl x (List.mem_cons_of_mem _ hx)) (fun x hx => hi x (List.mem_cons_of_mem _ hx)) hb2
    refine ⟨y3, y4, y5, y6, ?_⟩
    rw [List.map_cons]
    unfold forGo
    have hpt : (Tg.slot 3).put (encL l) [some a0, some a1, some (.v (encLs found)), x3, x4, x5, x6, none, none, none, none] = some [some a0, some a1, some (.v (encLs found)), some (.v (encL l)), x4, x5, x6, none, none, none, none] := rfl
    rw [hpt]
    dsimp only
    rw [stepA_ok h hn hw (hl l List.mem_cons_self) (hi l List.mem_cons_self) (by simpa using hb [] (by simp)) h0 hp]
    exact ih
theorem loopB_ok (h : LinesT T) {n : Nat} (hn : n + 1 ≤ 10) {a0 a1 : PV.W} (h0 : a0 = .v (.int (n + 1 : Nat))) {st : Sto} (hp : plainSto st = true) : ∀ (ls found : List Line) (x3 x4 x5 x6 : Option PV.W), Wide (n + 1) found → Wide (n + 1) ls →
    (∀ r, r <+: ls → (r.foldl (stepB_L (n + 1)) found).length ≤ big) → ∃ y3 y4 y5 y6,
    forGo (run T (d + 3)) (.slot 3) (sSeq (sPar 4 5 (eLc (itSeq (eVar 2)) (.slot 8) [7, 8] (PV.tNot (tEx (eCall 4 (esDef (esCons (eVar 8) (esCons (eVar 3) esNil)) [])))) (eVar 8)) (eCall 16 (esDef (esCons (eVar 0) (esCons (eVar 3) esNil)) []))) (sSeq (sSet 6 (eCall 7 (esDef (esCons (eLc2 (itSeq (eVar 2)) (.slot 8) [7, 8, 9] (tEx (eCall 4 (esDef (esCons (eVar 8) (esCons (eVar 3) esNil)) []))) (itSeq (eVar 5)) (.slot 9) [9] PV.tYes (eCall 10 (esDef (esCons (eVar 8) (esCons (eVar 9) esNil)) []))) esNil) []))) (sSeq (sSet 2 (eLst (esStar (eVar 4) (esStar (eLc (itSeq (eVar 6)) (.slot 8) [7, 8] (PV.tNot (tEx (eFn bAny (esCons (eLc (itSeq (eVar 4)) (.slot 10) [7, 10] PV.tYes (eCall 4 (esDef (esCons (eVar 10) (esCons (eVar 8) esNil)) []))) esNil)))) (eVar 8)) esNil)))) sNil))) (fun _ => true) (ls.map encL) [some a0, some a1, some (.v (encLs found)), x3, x4, x5, x6, none, none, none, none] st =
      .nx [some a0, some a1, some (.v (encLs (ls.foldl (stepB_L (n + 1)) found))), y3, y4, y5, y6, none, none, none, none] st
  | [], found, x3, x4, x5, x6, _, _, _ => ⟨x3, x4, x5, x6, rfl⟩
  | l :: ls, found, x3, x4, x5, x6, hw, hl, hb => by
    have hb2 : ∀ r, r <+: ls → (r.foldl (stepB_L (n + 1)) (stepB_L (n + 1) found l)).length ≤ big := fun r hr => hb (l :: r) (by simpa using hr)
    obtain ⟨y3, y4, y5, y6, ih⟩ := loopB_ok h hn h0 hp ls (stepB_L (n + 1) found l) (some (.v (encL l))) (some (.v (encLs (found.filter fun one => !noGt one l)))) (some (.v (encLs (aboveN (n + 1) l)))) (some (.v (encLs (lAmong (candB (n + 1) found l))))) (wide_stepB hw) (fun x hx => hl x (List.mem_cons_of_mem _ hx)) hb2
    refine ⟨y3, y4, y5, y6, ?_⟩
    rw [List.map_cons]
    unfold forGo
    have hpt : (Tg.slot 3).put (encL l) [some a0, some a1, some (.v (encLs found)), x3, x4, x5, x6, none, none, none, none] = some [some a0, some a1, some (.v (encLs found)), some (.v (encL l)), x4, x5, x6, none, none, none, none] := rfl
    rw [hpt]
    dsimp only
    rw [stepB_ok_L h hn hw (hl l List.mem_cons_self) (by simpa using hb [] (by simp)) h0 hp]
    exact ih
theorem wide_whole (n : Nat) (v : Ent) : Wide n [List.replicate n v] := fun l hl => by rw [show l = List.replicate n v by simpa using hl]; simp
theorem all_outside_above_ok (h : LinesT T) {n : Nat} (hn : n + 1 ≤ 10) {a : A} {ls : List Line} (ha : IsLs a ls) (hl : Wide (n + 1) ls) (hi : ∀ l ∈ ls, ∀ v ∈ l, v ≠ none) (hls : ls.length ≤ Sz)
    (hb : ∀ r, r <+: ls → (outA (n + 1) r).length ≤ big) {st : Sto} (hp : plainSto st = true) : run T (d + 4) 14 [.v (.int (n + 1 : Nat)), .v a] st = .ok (.v (encLs (ordL (outA (n + 1) ls)))) st := by
  refine run_rt h.t14 rfl ?_ rfl
  have hw : encL (List.replicate (n + 1) none) = .tup (List.replicate (n + 1) .non) := by unfold encL; rw [List.map_replicate]; rfl
  obtain ⟨y3, y4, y5, y6, go⟩ := loopA_ok (d := d) h hn (a0 := .v (.int (n + 1 : Nat))) (a1 := .v a) rfl hp ls [List.replicate (n + 1) none] none none none none (wide_whole _ _) hl hi hb
  have hbo : (outA (n + 1) ls).length ≤ Sz := Nat.le_trans (hb ls (List.prefix_refl _)) (by decide)
  have k := ordered_ok (d := d + 1) h.t5 h.t6 (a := encLs (outA (n + 1) ls)) (.inl rfl) (wide_outA (n + 1) ls _ (wide_whole _ _)) (by omega) hbo st
  have hit := itSeq_ls (O := run T (d + 3)) (i := 1) (env := [some (.v (.int (n + 1 : Nat))), some (.v a), some (.v (encLs [List.replicate (n + 1) none])), none, none, none, none, none, none, none, none]) (st := st) rfl ha hls
  simp only [f_all_outside_above, b_all_outside_above]
  rw [sSeq_eq]
  simp only [sSet_eq, eLst_eq, esCons_eq, eOp2_eq, eTup_eq, eCon_eq, esNil_eq, eVar_eq, List.map_cons, List.map_nil, List.replicate, List.cons_append, List.nil_append, List.getElem?_cons_zero, bind_ok, disp1, op2_v, fMul_one _ _ (show n + 1 ≤ 1000 by omega), ofV_some, to_ok, List.set, seq_nx]
  rw [sSeq_eq, sFor_eq]
  have e1 : (A.lst [A.tup (List.replicate (n + 1) A.non)]) = encLs [List.replicate (n + 1) none] := by unfold encLs; rw [List.map_cons, hw]; rfl
  have e1' : (A.lst [A.tup (A.non :: List.replicate n A.non)]) = encLs [List.replicate (n + 1) none] := e1
  rw [e1', hit]
  simp only [to_ok, if_true]
  rw [go]
  simp only [seq_nx, sSeq_eq, sRet_eq, eCall_eq, esDef_eq, esCons_eq, esNil_eq, eVar_eq, List.getElem?_cons_zero, List.getElem?_cons_succ, bind_ok, List.map_nil, List.append_nil]
  have k' : run T (d + 3) 6 [PV.W.v (encLs (ls.foldl (stepA (n + 1)) [List.replicate (n + 1) none]))] st = _ := k
  rw [k']
  rfl
theorem let_lines_ok (h : LinesT T) {ls : List Line} (hl : ls.length ≤ 400) (st : Sto) : run T (d + 1) 12 [.v (encLs ls)] st = .ok (.v (encLs ls)) st := by
  refine run_rt h.t12 rfl ?_ rfl
  simp [f_let_lines, b_let_lines, encLs, bLen]
  rw [if_neg (by omega)]
  rfl
theorem outside_above_ok (h : LinesT T) {n : Nat} (hn : n + 1 ≤ 10) {a : A} {ls : List Line} (ha : IsLs a ls) (hl : Wide (n + 1) ls) (hi : ∀ l ∈ ls, ∀ v ∈ l, v ≠ none) (hls : ls.length ≤ Sz)
    (hb : ∀ r, r <+: ls → (outA (n + 1) r).length ≤ big) (hf : (outA (n + 1) ls).length ≤ 400) {st : Sto} (hp : plainSto st = true) : run T (d + 5) 15 [.v (.int (n + 1 : Nat)), .v a] st = .ok (.v (encLs (ordL (outA (n + 1) ls)))) st := by
  refine run_rt h.t15 rfl ?_ rfl
  have k := all_outside_above_ok (d := d) h hn ha hl hi hls hb hp
  have k2 := let_lines_ok (d := d + 3) h (ls := ordL (outA (n + 1) ls)) (Nat.le_trans (len_ordL _) hf) st
  simp only [f_outside_above, b_outside_above, sSeq_eq, sRet_eq, eCall_eq, esDef_eq, esCons_eq, esNil_eq, eVar_eq, List.map_cons, List.map_nil, List.replicate, List.cons_append, List.nil_append, List.getElem?_cons_zero, List.getElem?_cons_succ, bind_ok, List.append_nil]
  rw [k]
  simp only [bind_ok]
  rw [k2]
  rfl
theorem outside_below_ok (h : LinesT T) {n : Nat} (hn : n + 1 ≤ 10) {a : A} {ls : List Line} (ha : IsLs a ls) (hl : Wide (n + 1) ls) (hls : ls.length ≤ Sz)
    (hb' : ∀ r, r <+: ls → (outB (n + 1) r).length ≤ big) (hf : (outB (n + 1) ls).length ≤ 400) {st : Sto} (hp : plainSto st = true) : run T (d + 4) 17 [.v (.int (n + 1 : Nat)), .v a] st = .ok (.v (encLs (ordL (outB (n + 1) ls)))) st := by
  refine run_rt h.t17 rfl ?_ rfl
  have hw : encL (List.replicate (n + 1) (some 0)) = .tup (List.replicate (n + 1) (.int 0)) := by unfold encL; rw [List.map_replicate]; rfl
  obtain ⟨y3, y4, y5, y6, go⟩ := loopB_ok (d := d) h hn (a0 := .v (.int (n + 1 : Nat))) (a1 := .v a) rfl hp ls [List.replicate (n + 1) (some 0)] none none none none (wide_whole _ _) hl hb'
  have hbo : (outB (n + 1) ls).length ≤ Sz := Nat.le_trans hf (by decide)
  have k := ordered_ok (d := d + 1) h.t5 h.t6 (a := encLs (outB (n + 1) ls)) (.inl rfl) (wide_outB (n + 1) ls _ (wide_whole _ _)) (by omega) hbo st
  have k2 := let_lines_ok (d := d + 2) h (ls := ordL (outB (n + 1) ls)) (Nat.le_trans (len_ordL _) hf) st
  have hit := itSeq_ls (O := run T (d + 3)) (i := 1) (env := [some (.v (.int (n + 1 : Nat))), some (.v a), some (.v (encLs [List.replicate (n + 1) (some 0)])), none, none, none, none, none, none, none, none]) (st := st) rfl ha hls
  simp only [f_outside_below, b_outside_below]
  rw [sSeq_eq]
  simp only [sSet_eq, eLst_eq, esCons_eq, eOp2_eq, eTup_eq, eCon_eq, esNil_eq, eVar_eq, List.map_cons, List.map_nil, List.replicate, List.cons_append, List.nil_append, List.getElem?_cons_zero, bind_ok, disp1, op2_v, fMul_one _ _ (show n + 1 ≤ 1000 by omega), ofV_some, to_ok, List.set, seq_nx]
  rw [sSeq_eq, sFor_eq]
  have e1 : (A.lst [A.tup (List.replicate (n + 1) (A.int 0))]) = encLs [List.replicate (n + 1) (some 0)] := by unfold encLs; rw [List.map_cons, hw]; rfl
  have e1' : (A.lst [A.tup (A.int 0 :: List.replicate n (A.int 0))]) = encLs [List.replicate (n + 1) (some 0)] := e1
  rw [e1', hit]
  simp only [to_ok, if_true]
  rw [go]
  simp only [seq_nx, sSeq_eq, sRet_eq, eCall_eq, esDef_eq, esCons_eq, esNil_eq, eVar_eq, List.getElem?_cons_zero, List.getElem?_cons_succ, bind_ok, List.map_nil, List.append_nil]
  have k' : run T (d + 3) 6 [PV.W.v (encLs (ls.foldl (stepB_L (n + 1)) [List.replicate (n + 1) (some 0)]))] st = _ := k
  rw [k']
  simp only [bind_ok]
  rw [k2]
  rfl
end
end PV
end
section
set_option linter.all false
set_option Elab.async false
/-! PL8: checks; what is asked of lines. -/
namespace PV
/-- a line as a list or a tuple -/
def encR (p : Bool × Line) : A := if p.1 then .lst (p.2.map encE) else .tup (p.2.map encE)
def IsRs (a : A) (ps : List (Bool × Line)) : Prop := a = .lst (ps.map encR) ∨ a = .tup (ps.map encR)
structure ChecksT (T : Nat → Option FnD) (isi : List A → Option A) : Prop where
  t0 : T 0 = some (f_is_integer isi)
  t1 : T 1 = some f_is_within
  t2 : T 2 = some (f_is_listed isi)
  t3 : T 3 = some f_is_row
structure LinesA (T : Nat → Option FnD) : Prop where
  t18 : T 18 = some f_is_line
  t19 : T 19 = some f_need_lines
  t20 : T 20 = some f_greatest_outside
  t21 : T 21 = some f_least_outside
section
variable {T : Nat → Option FnD} {d : Nat} {ck : Nat → Bool} {sub : Nat → Nat → Option Bool}
theorem is_integer_ok (h : ChecksT T (bIsi ck sub)) (v : Ent) (st : Sto) : run T (d + 1) 0 [.v (encE v)] st = .ok (.v (.bl v.isSome)) st := by
  refine run_rt h.t0 rfl ?_ rfl
  cases v <;> simp [f_is_integer, b_is_integer, encE, bIsi, isi1, isi0, A.tag, tyLe]
theorem is_within_ok (h : ChecksT T (bIsi ck sub)) (i lo hi : Int) (st : Sto) : run T (d + 2) 1 [.v (.int i), .v (.int lo), .v (.int hi)] st = .ok (.v (.bl (decide (lo ≤ i) && decide (i ≤ hi)))) st := by
  refine run_rt h.t1 rfl ?_ rfl
  have k := is_integer_ok (d := d) h (some i) st
  have k : run T (d + 1) 0 [.v (.int i)] st = .ok (.v (.bl true)) st := k
  simp only [f_is_within, b_is_within, sSeq_eq, sRet_eq, eAnd_eq, eCall_eq, esDef_eq, esCons_eq, esNil_eq, eVar_eq, List.map_cons, List.map_nil, List.replicate, List.cons_append, List.nil_append, List.getElem?_cons_zero, List.getElem?_cons_succ, bind_ok, List.append_nil]
  rw [k]
  simp only [bind_ok, truthW_bl, if_true, eTest_eq, tChain_eq, eVar_eq, List.getElem?_cons_zero, List.getElem?_cons_succ, op2_v, fLe_int, ofV_some, boolW_bl]
  by_cases h1 : lo ≤ i <;> simp [h1]
theorem is_listed_ok (h : ChecksT T (bIsi ck sub)) {a : A} {l : List A} (ha : a = .lst l ∨ a = .tup l) (st : Sto) : run T (d + 1) 2 [.v a] st = .ok (.v (.bl true)) st := by
  refine run_rt h.t2 rfl ?_ rfl
  rcases ha with rfl | rfl <;> simp [f_is_listed, b_is_listed, bIsi, isiL, isi1, isi0, A.tag, tyLe]
theorem is_row_ok (h : ChecksT T (bIsi ck sub)) {a : A} {l : List A} (ha : a = .lst l ∨ a = .tup l) (lo hi : Int) (st : Sto) : run T (d + 2) 3 [.v a, .v (.int lo), .v (.int hi)] st = .ok (.v (.bl (decide (lo ≤ l.length) && decide ((l.length : Int) ≤ hi)))) st := by
  refine run_rt h.t3 rfl ?_ rfl
  have k := is_listed_ok (d := d) h ha st
  have kl : bLen [a] = some (.int l.length) := by rcases ha with rfl | rfl <;> rfl
  simp only [f_is_row, b_is_row, sSeq_eq, sRet_eq, eAnd_eq, eCall_eq, esDef_eq, esCons_eq, esNil_eq, eVar_eq, List.map_cons, List.map_nil, List.replicate, List.cons_append, List.nil_append, List.getElem?_cons_zero, List.getElem?_cons_succ, bind_ok, List.append_nil]
  rw [k]
  simp only [bind_ok, truthW_bl, if_true, eTest_eq, tChain_eq, eVar_eq, eFn_eq, esCons_eq, esNil_eq, opL_1, kl, List.getElem?_cons_zero, List.getElem?_cons_succ, op2_v, fLe_int, ofV_some, boolW_bl]
  by_cases h1 : lo ≤ (l.length : Int) <;> simp [h1]
/-- what an entry may be -/
def okE (wide : Bool) : Ent → Bool
  | none => wide
  | some i => decide (i ≥ 0)
theorem is_line_ok (h : ChecksT T (bIsi ck sub)) (hA : LinesA T) {a : A} {l : Line} (ha : a = .lst (l.map encE) ∨ a = .tup (l.map encE)) (n : Nat) (wide : Bool) (hl : l.length ≤ Sz) (st : Sto) :
    run T (d + 3) 18 [.v a, .v (.int n), .v (.bl wide)] st = .ok (.v (.bl (decide (l.length = n) && l.all (okE wide)))) st := by
  refine run_rt hA.t18 rfl ?_ rfl
  have k := is_row_ok (d := d) h ha n n st
  rw [List.length_map] at k
  simp only [f_is_line, b_is_line]
  rw [sSeq_eq, sIf_eq]
  simp only [tNot_eq, tEx_eq, eCall_eq, esDef_eq, esCons_eq, esNil_eq, eVar_eq, List.map_cons, List.map_nil, List.replicate, List.cons_append, List.nil_append, List.getElem?_cons_zero, List.getElem?_cons_succ, bind_ok, List.append_nil]
  rw [k]
  by_cases hn : l.length = n
  · have e : (decide ((n : Int) ≤ (l.length : Int)) && decide ((l.length : Int) ≤ (n : Int))) = true := by rw [hn]; simp
    simp only [e, bind_ok, truthW_bl, Bool.not_true, to_ok, Bool.false_eq_true, if_false, sNil_eq, seq_nx]
    have hit : itSeq (eVar 0) (run T (d + 2)) [some (.v a), some (.v (.int n)), some (.v (.bl wide)), none, none] st = .ok (l.map encE, fun _ => true) st := by
      rcases ha with rfl | rfl
      · exact itSeq_lst rfl (by simpa using hl)
      · exact itSeq_tup rfl (by simpa using hl)
    have k2 := eLc_yes (it := itSeq (eVar 0)) (tg := .slot 4) (own := [3, 4]) (x := eOr (eAnd (eVar 2) (eOp2 fIs (eVar 4) (eCon .non))) (eAnd (eCall 0 (esDef (esCons (eVar 4) esNil) [])) (eOp2 fGe (eVar 4) (eCon (.int 0))))) (O := run T (d + 2)) (env := [some (.v a), some (.v (.int n)), some (.v (.bl wide)), none, none]) (st := st) l encE (fun v => .bl (okE wide v)) hit rfl (by
      intro v _
      refine ⟨_, rfl, ?_⟩
      have k3 := is_integer_ok (d := d + 1) h v st
      cases v with
      | none =>
        have k3 : run T (d + 2) 0 [.v .non] st = .ok (.v (.bl false)) st := k3
        cases wide <;> simp [encE, wipe, A.same, k3, okE]
      | some i =>
        have k3 : run T (d + 2) 0 [.v (.int i)] st = .ok (.v (.bl true)) st := k3
        cases wide <;> simp [encE, wipe, A.same, k3, okE])
    rw [sSeq_eq, sRet_eq, eFn_eq, esCons_eq]
    rw [k2]
    simp [bAll_map, hn]
  · have e : (decide ((n : Int) ≤ (l.length : Int)) && decide ((l.length : Int) ≤ (n : Int))) = false := by
      by_cases h1 : (n : Int) ≤ l.length
      · have h2 : ¬ (l.length : Int) ≤ n := by omega
        simp [h2]
      · simp [h1]
    simp only [e, bind_ok, truthW_bl, Bool.not_false, to_ok, if_true, sSeq_eq, sRet_eq, eCon_eq, seq_rt, decide_eq_false hn, Bool.false_and]
theorem need_lines_ok (h : ChecksT T (bIsi ck sub)) (hA : LinesA T) {a : A} {ps : List (Bool × Line)} (ha : IsRs a ps) {n : Nat} (hn1 : 1 ≤ n) (hn : n ≤ 10) (wide : Bool) (hp : ps.length ≤ 60) (hl : ∀ p ∈ ps, p.2.length = n ∧ p.2.all (okE wide) = true) (st : Sto) :
    run T (d + 4) 19 [.v a, .v (.int n), .v (.bl wide)] st = .ok (.v (encLs (ps.map (·.2)))) st := by
  refine run_rt hA.t19 rfl ?_ rfl
  have k1 := is_within_ok (d := d + 1) h n 1 10 st
  have k2 := is_row_ok (d := d + 1) h ha 0 60 st
  have hsz : (ps.map encR).length ≤ Sz := by rw [List.length_map]; exact Nat.le_trans hp (by decide)
  have hit : ∀ x3 x4, itSeq (eVar 0) (run T (d + 3)) [some (.v a), some (.v (.int n)), some (.v (.bl wide)), x3, x4] st = .ok (ps.map encR, fun _ => true) st := by
    intro x3 x4
    rcases ha with rfl | rfl
    · exact itSeq_lst rfl hsz
    · exact itSeq_tup rfl hsz
  have k3 := eLc_yes (it := itSeq (eVar 0)) (tg := .slot 4) (own := [3, 4]) (x := eCall 18 (esDef (esCons (eVar 4) (esCons (eVar 1) (esCons (eVar 2) esNil))) [])) (O := run T (d + 3)) (env := [some (.v a), some (.v (.int n)), some (.v (.bl wide)), none, none]) (st := st) ps encR (fun _ => .bl true) (hit _ _) rfl (by
    intro p hp2
    obtain ⟨q1, q2⟩ := hl p hp2
    refine ⟨_, rfl, ?_⟩
    have e := is_line_ok (d := d) h hA (a := encR p) (l := p.2) (by unfold encR; split; exact .inl rfl; exact .inr rfl) n wide (by rw [q1]; exact Nat.le_trans hn (by decide)) st
    rw [q1, q2, decide_eq_true rfl] at e
    simp [wipe]
    rw [e]
    rfl)
  have k4 := eLc_yes (it := itSeq (eVar 0)) (tg := .slot 4) (own := [3, 4]) (x := eFn bTuple (esCons (eVar 4) esNil)) (O := run T (d + 3)) (env := [some (.v a), some (.v (.int n)), some (.v (.bl wide)), none, none]) (st := st) ps encR (fun p => encL p.2) (hit _ _) rfl (by
    intro p _
    refine ⟨_, rfl, ?_⟩
    obtain ⟨b, l⟩ := p
    cases b <;> simp [wipe, encR, bTuple, encL])
  simp only [f_need_lines, b_need_lines]
  rw [sSeq_eq, sIf_eq]
  simp only [tNot_eq, tEx_eq, eCall_eq, esDef_eq, esCons_eq, esNil_eq, eVar_eq, eCon_eq, List.map_cons, List.map_nil, List.replicate, List.cons_append, List.nil_append, List.getElem?_cons_zero, List.getElem?_cons_succ, bind_ok, List.append_nil]
  rw [k1]
  have e1 : (decide ((1 : Int) ≤ (n : Int)) && decide ((n : Int) ≤ 10)) = true := by rw [decide_eq_true (by omega), decide_eq_true (by omega)]; rfl
  simp only [e1, bind_ok, truthW_bl, Bool.not_true, to_ok, Bool.false_eq_true, if_false, sNil_eq, seq_nx]
  rw [sSeq_eq, sIf_eq]
  simp only [tOr_eq, tNot_eq, tEx_eq, eCall_eq, esDef_eq, esCons_eq, esNil_eq, eVar_eq, eCon_eq, List.map_cons, List.map_nil, List.getElem?_cons_zero, List.getElem?_cons_succ, bind_ok, List.append_nil]
  rw [k2]
  have e2 : (decide ((0 : Int) ≤ ((ps.map encR).length : Int)) && decide (((ps.map encR).length : Int) ≤ 60)) = true := by rw [List.length_map, decide_eq_true (by omega), decide_eq_true (by omega)]; rfl
  simp only [e2, bind_ok, truthW_bl, Bool.not_true, Bool.false_eq_true, if_false, eFn_eq, esCons_eq]
  rw [k3]
  have e3 : (ps.all fun _ => true) = true := by simp
  have e4 := bAll_map (fun _ : Bool × Line => true) ps
  simp only [bind_ok, esNil_eq, opL_1, e4, ofV_some, truthW_bl, e3, Bool.not_true, to_ok, Bool.false_eq_true, if_false, sNil_eq, seq_nx]
  rw [sSeq_eq, sRet_eq, k4]
  simp [encLs]
theorem greatest_outside_ok (h : ChecksT T (bIsi ck sub)) (hL : LinesT T) (hA : LinesA T) {a : A} {ps : List (Bool × Line)} (ha : IsRs a ps) {n : Nat} (hn : n + 1 ≤ 10) (hp : ps.length ≤ 60) (hl : ∀ p ∈ ps, p.2.length = n + 1 ∧ p.2.all (okE false) = true)
    (hb : ∀ r, r <+: ps.map (·.2) → (outA (n + 1) r).length ≤ big) (hf : (outA (n + 1) (ps.map (·.2))).length ≤ 400) {st : Sto} (hs : plainSto st = true) : run T (d + 6) 20 [.v (.int (n + 1 : Nat)), .v a] st = .ok (.v (.tup ((ordL (outA (n + 1) (ps.map (·.2)))).map encL))) st := by
  refine run_rt hA.t20 rfl ?_ rfl
  have k1 := need_lines_ok (d := d + 1) h hA ha (by omega) hn false hp hl st
  have k2 := outside_above_ok (d := d) hL hn (a := encLs (ps.map (·.2))) (ls := ps.map (·.2)) (.inl rfl) (fun l hl2 => by obtain ⟨p, hp2, rfl⟩ := List.mem_map.mp hl2; exact (hl p hp2).1) (fun l hl2 v hv => by
    obtain ⟨p, hp2, rfl⟩ := List.mem_map.mp hl2
    have := List.all_eq_true.mp (hl p hp2).2 v hv
    intro e
    rw [e] at this
    cases this) (by rw [List.length_map]; exact Nat.le_trans hp (by decide)) hb hf hs
  simp only [f_greatest_outside, b_greatest_outside, sSeq_eq, sRet_eq, eFn_eq, eCall_eq, esDef_eq, esCons_eq, esNil_eq, eVar_eq, eCon_eq, List.map_cons, List.map_nil, List.replicate, List.cons_append, List.nil_append, List.getElem?_cons_zero, List.getElem?_cons_succ, bind_ok, List.append_nil]
  rw [k1]
  simp only [bind_ok]
  rw [k2]
  rfl
theorem least_outside_ok (h : ChecksT T (bIsi ck sub)) (hL : LinesT T) (hA : LinesA T) {a : A} {ps : List (Bool × Line)} (ha : IsRs a ps) {n : Nat} (hn : n + 1 ≤ 10) (hp : ps.length ≤ 60) (hl : ∀ p ∈ ps, p.2.length = n + 1 ∧ p.2.all (okE true) = true)
    (hb : ∀ r, r <+: ps.map (·.2) → (outB (n + 1) r).length ≤ big) (hf : (outB (n + 1) (ps.map (·.2))).length ≤ 400) {st : Sto} (hs : plainSto st = true) : run T (d + 5) 21 [.v (.int (n + 1 : Nat)), .v a] st = .ok (.v (.tup ((ordL (outB (n + 1) (ps.map (·.2)))).map encL))) st := by
  refine run_rt hA.t21 rfl ?_ rfl
  have k1 := need_lines_ok (d := d) h hA ha (by omega) hn true hp hl st
  have k2 := outside_below_ok (d := d) hL hn (a := encLs (ps.map (·.2))) (ls := ps.map (·.2)) (.inl rfl) (fun l hl2 => by obtain ⟨p, hp2, rfl⟩ := List.mem_map.mp hl2; exact (hl p hp2).1) (by rw [List.length_map]; exact Nat.le_trans hp (by decide)) hb hf hs
  simp only [f_least_outside, b_least_outside, sSeq_eq, sRet_eq, eFn_eq, eCall_eq, esDef_eq, esCons_eq, esNil_eq, eVar_eq, eCon_eq, List.map_cons, List.map_nil, List.replicate, List.cons_append, List.nil_append, List.getElem?_cons_zero, List.getElem?_cons_succ, bind_ok, List.append_nil]
  rw [k1]
  simp only [bind_ok]
  rw [k2]
  rfl
end
end PV
end
section
set_option linter.all false
set_option Elab.async false
/-! PL9: what draws. -/
namespace PV
/-- what draws, as it lies -/
def PenC (cells : List Int) (at_ rest : Int) : Cell := .lst [.lst (cells.map .int), .int at_, .int rest]
/-- the def that draws, by its numbers -/
def drawB (c1 c2 c3 c4 : Int) : Stm := (sSeq (sIf (tEx (eOp2 fGt (eOp2 fIx (eVar 0) (eCon (.int 2))) (eCon (.int 0)))) (sSeq (sSet 2 (eFn bInt (esCons (eOp2 fIx (eVar 0) (eCon (.int 2))) esNil))) (sSeq (sSub (eVar 0) (eCon (.int 2)) (eOp2 fDiv (eVar 2) (eVar 1))) (sSeq (sRet (eOp2 fMod (eFn bInt (esCons (eVar 2) esNil)) (eVar 1))) sNil))) sNil) (sSeq (sSet 3 (eOp2 fIx (eVar 0) (eCon (.int 1)))) (sSeq (sSub (eVar 0) (eCon (.int 1)) (eOp2 fAdd (eVar 3) (eCon (.int 1)))) (sSeq (sSet 4 (eOp2 fAdd (eOp2 fMul (eCon (.int c1)) (eVar 3)) (eCon (.int c2)))) (sSeq (sIf (tEx (eOp2 fNe (eOp2 fIx (eVar 0) (eCon (.int 0))) (eLst esNil))) (sSeq (sSet 4 (eOp2 fIx (eOp2 fIx (eVar 0) (eCon (.int 0))) (eOp2 fMod (eFn bInt (esCons (eVar 3) esNil)) (eFn bLen (esCons (eOp2 fIx (eVar 0) (eCon (.int 0))) esNil))))) sNil) sNil) (sSeq (sIf (PV.tAnd (tEx (eOp2 fLt (eVar 3) (eFn bLen (esCons (eOp2 fIx (eVar 0) (eCon (.int 0))) esNil)))) (tEx (eOp2 fGe (eFn bAbs (esCons (eVar 4) esNil)) (eOp2 fPow (eCon (.int 10)) (eCon (.int 18)))))) (sSeq (sSet 2 (eOp2 fAdd (eOp2 fMul (eCon (.int 2)) (eOp2 fSub (eFn bAbs (esCons (eVar 4) esNil)) (eOp2 fPow (eCon (.int 10)) (eCon (.int 18))))) (eFn bInt (esCons (eOp2 fLt (eVar 4) (eCon (.int 0))) esNil)))) (sSeq (sSub (eVar 0) (eCon (.int 2)) (eOp2 fDiv (eFn bInt (esCons (eVar 2) esNil)) (eVar 1))) (sSeq (sRet (eOp2 fMod (eFn bInt (esCons (eVar 2) esNil)) (eVar 1))) sNil))) sNil) (sSeq (sSet 5 (eOp2 fMod (eFn bInt (esCons (eOp2 fPow (eOp2 fAdd (eOp2 fAdd (eOp2 fMod (eFn bInt (esCons (eVar 4) esNil)) (eCon (.int 2147483579))) (eOp2 fMul (eCon (.int c3)) (eVar 3))) (eCon (.int c4))) (eCon (.int 5))) esNil)) (eCon (.int 2147483587)))) (sSeq (sSet 5 (eOp2 fMod (eFn bInt (esCons (eOp2 fPow (eOp2 fAdd (eOp2 fAdd (eOp2 fMul (eVar 5) (eOp2 fAdd (eOp2 fMul (eCon (.int 2)) (eVar 3)) (eCon (.int c4)))) (eOp2 fMul (eOp2 fMul (eCon (.int c3)) (eVar 3)) (eVar 3))) (eCon (.int c1))) (eCon (.int 3))) esNil)) (eCon (.int 2147483563)))) (sSeq (sRet (eOp2 fMod (eFn bInt (esCons (eOp2 fDiv (eVar 5) (eCon (.int 64))) esNil)) (eVar 1))) sNil)))))))))
def drawF (c1 c2 c3 c4 : Int) : FnD := ⟨2, 6, drawB c1 c2 c3 c4, false⟩
@[simp] theorem bInt_int (i : Int) : bInt [.int i] = some (.int i) := rfl
@[simp] theorem bInt_bl (b : Bool) : bInt [.bl b] = some (.int (if b then 1 else 0)) := rfl
@[simp] theorem bAbs_int (i : Int) : bAbs [.int i] = some (.int (if i < 0 then -i else i)) := rfl
theorem fDiv_int {i j : Int} (h1 : 1 ≤ j) (h2 : j < 1073741824) : fDiv (.int i) (.int j) = some (.int (i.fdiv j)) := by
  show (if (j != 0 && decide (j.natAbs < 1073741824)) = true then some (A.int (i.fdiv j)) else none) = _
  rw [if_pos (by simp; omega)]
theorem fMod_int {i j : Int} (h1 : 1 ≤ j) : fMod (.int i) (.int j) = some (.int (i.fmod j)) := by
  show (if (j != 0) = true then some (A.int (i.fmod j)) else none) = _
  rw [if_pos (by simp; omega)]
theorem fMul_int {i j : Int} (h : (-(2 ^ 64) < i ∧ i < 2 ^ 64) ∨ (-(2 ^ 64) < j ∧ j < 2 ^ 64)) : fMul (.int i) (.int j) = some (.int (i * j)) := by
  show (if mulOk i j = true then some (A.int (i * j)) else none) = _
  rw [if_pos (by
    unfold mulOk
    rcases h with h | h
    · rw [decide_eq_true h.1, decide_eq_true h.2]; rfl
    · rw [decide_eq_true h.1, decide_eq_true h.2]; simp)]
theorem fPow_int {i : Int} {k : Nat} (h1 : k ≤ 1000000) (h2 : i.natAbs < 2 ^ 64) : fPow (.int i) (.int k) = some (.int (i ^ k)) := by
  show (if (decide (0 ≤ (k : Int)) && decide ((k : Int) ≤ 1000000) && decide (i.natAbs < 2 ^ 64)) = true then some (A.int (i ^ (k : Int).toNat)) else none) = _
  rw [decide_eq_true (by omega), decide_eq_true (by omega), decide_eq_true h2, Int.toNat_natCast]
  rfl
theorem fmod_range {i j : Int} (h : 1 ≤ j) : 0 ≤ i.fmod j ∧ i.fmod j < j := ⟨Int.fmod_nonneg_of_pos i (by omega), Int.fmod_lt_of_pos i (by omega)⟩
theorem fdiv_nonneg {i j : Int} (h : 0 ≤ i) (h2 : 1 ≤ j) : 0 ≤ i.fdiv j := Int.fdiv_nonneg h (by omega)
theorem getI_nat {α : Type} {l : List α} {k : Nat} {a : α} (h : l[k]? = some a) : getI l (k : Int) = some a := by
  have hk := (List.getElem?_eq_some_iff.mp h).1
  unfold getI ixP
  rw [if_pos (by omega), if_pos (by omega), Int.toNat_natCast]
  exact h
theorem getI_in {l : List Int} {i : Int} (h0 : 0 ≤ i) (h1 : i < l.length) : ∃ c, getI (l.map A.int) i = some (.int c) := by
  obtain ⟨k, rfl⟩ : ∃ k : Nat, i = k := ⟨i.toNat, by omega⟩
  have hk : k < l.length := by omega
  exact ⟨l[k], getI_nat (by simp [hk])⟩
theorem mul_bound {a b A B : Int} (ha : 0 ≤ a) (hb : 0 ≤ b) (h1 : a ≤ A) (h2 : b ≤ B) : 0 ≤ a * b ∧ a * b ≤ A * B := ⟨Int.mul_nonneg ha hb, Int.mul_le_mul h1 h2 hb (by omega)⟩
theorem vw_pen {st : Sto} {p : Nat} {C : List Int} {a r : Int} (h : st[p]? = some (PenC C a r)) : vw st (.cel p) = some (.lst [.lst (C.map .int), .int a, .int r]) := by
  show (match st[p]? with
    | some (.lst l) => some (A.lst l)
    | some (.dct l) => some (A.dct l)
    | _ => none) = _
  rw [h]
  rfl
theorem sub_pen2 {O : Orc} {e : Env} {st : Sto} {p : Nat} {C : List Int} {a r v : Int} {x : Ex} (h0 : e[0]? = some (some (.cel p))) (h : st[p]? = some (PenC C a r)) (hx : x O e st = .ok (.v (.int v)) st) : sSub (eVar 0) (eCon (.int 2)) x O e st = .nx e (st.set p (PenC C a v)) := by
  have h : st[p]? = some (.lst [.lst (C.map .int), .int a, .int r]) := h
  unfold sSub
  rw [hx]
  simp only [to_ok, eVar_eq, h0, eCon_eq, h]
  rfl
theorem sub_pen1 {O : Orc} {e : Env} {st : Sto} {p : Nat} {C : List Int} {a r v : Int} {x : Ex} (h0 : e[0]? = some (some (.cel p))) (h : st[p]? = some (PenC C a r)) (hx : x O e st = .ok (.v (.int v)) st) : sSub (eVar 0) (eCon (.int 1)) x O e st = .nx e (st.set p (PenC C v r)) := by
  have h : st[p]? = some (.lst [.lst (C.map .int), .int a, .int r]) := h
  unfold sSub
  rw [hx]
  simp only [to_ok, eVar_eq, h0, eCon_eq, h]
  rfl
section
variable {T : Nat → Option FnD} {d : Nat} {c1 c2 c3 c4 : Int}
theorem draw_ok (hT : T 23 = some (drawF c1 c2 c3 c4)) (k1 : 0 ≤ c1 ∧ c1 ≤ 1000000) (k3 : 0 ≤ c3 ∧ c3 ≤ 1000000) (k4 : 0 ≤ c4 ∧ c4 ≤ 1000000) {p : Nat} {cells : List Int} {at_ rest : Int} {st : Sto} (hp : st[p]? = some (PenC cells at_ rest)) (ha : 0 ≤ at_ ∧ at_ ≤ 1000000) (hr : 0 ≤ rest)
    (hc : cells.length ≤ 100) {many : Int} (hm : 1 ≤ many) (hm2 : many < 1073741824) :
    ∃ r at' rest', run T (d + 1) 23 [.cel p, .v (.int many)] st = .ok (.v (.int r)) (st.set p (PenC cells at' rest')) ∧ 0 ≤ r ∧ r < many ∧ at_ ≤ at' ∧ at' ≤ at_ + 1 ∧ 0 ≤ rest' := by
  have hpl : p < st.length := (List.getElem?_eq_some_iff.mp hp).1
  have hv : ∀ {st : Sto} {C a r}, st[p]? = some (PenC C a r) → vw st (.cel p) = some (.lst [.lst (C.map .int), .int a, .int r]) := fun h => vw_pen h
  have hs : ∀ c : Cell, (st.set p c)[p]? = some c := fun c => List.getElem?_set_self hpl
  by_cases h1 : rest > 0
  · refine ⟨rest.fmod many, at_, rest.fdiv many, ?_, (fmod_range hm).1, (fmod_range hm).2, Int.le_refl _, by omega, fdiv_nonneg hr hm⟩
    refine run_rt hT rfl ?_ (by simp)
    show drawB c1 c2 c3 c4 (run T d) [some (.cel p), some (.v (.int many)), none, none, none, none] st = _
    unfold drawB
    rw [sSeq_eq, sIf_eq]
    simp only [tEx_eq, eOp2_eq, eVar_eq, eCon_eq, List.getElem?_cons_zero, List.getElem?_cons_succ, bind_ok, op2, hv hp, vw_v, Option.bind_some]
    have e2 : fIx (.lst [.lst (cells.map .int), .int at_, .int rest]) (.int 2) = some (.int rest) := rfl
    simp only [e2, ofV_some, bind_ok, vw_v, Option.bind_some, fGt_int, decide_eq_true h1, truthW_bl, to_ok, if_true]
    rw [sSeq_eq, sSet_eq]
    simp only [eFn_eq, esCons_eq, eOp2_eq, eVar_eq, eCon_eq, esNil_eq, List.getElem?_cons_zero, List.getElem?_cons_succ, bind_ok, op2, hv hp, vw_v, Option.bind_some, e2, ofV_some, opL_1, bInt_int, to_ok, seq_nx, List.set]
    rw [sSeq_eq, sub_pen2 (v := rest.fdiv many) rfl hp (by simp [fDiv_int hm hm2])]
    simp [fMod_int hm]
  · have e2 : fIx (.lst [.lst (cells.map .int), .int at_, .int rest]) (.int 2) = some (.int rest) := rfl
    have e1 : fIx (.lst [.lst (cells.map .int), .int at_, .int rest]) (.int 1) = some (.int at_) := rfl
    have e0 : ∀ a, fIx (.lst [.lst (cells.map .int), .int a, .int rest]) (.int 0) = some (.lst (cells.map .int)) := fun _ => rfl
    -- the cell that is taken
    have cell : ∃ cell : Int, ∀ x2 x5, (sSeq (sIf (tEx (eOp2 fNe (eOp2 fIx (eVar 0) (eCon (.int 0))) (eLst esNil))) (sSeq (sSet 4 (eOp2 fIx (eOp2 fIx (eVar 0) (eCon (.int 0))) (eOp2 fMod (eFn bInt (esCons (eVar 3) esNil)) (eFn bLen (esCons (eOp2 fIx (eVar 0) (eCon (.int 0))) esNil))))) sNil) sNil) sNil) (run T d) [some (.cel p), some (.v (.int many)), x2, some (.v (.int at_)), some (.v (.int (c1 * at_ + c2))), x5] (st.set p (PenC cells (at_ + 1) rest)) =
        .nx [some (.cel p), some (.v (.int many)), x2, some (.v (.int at_)), some (.v (.int cell)), x5] (st.set p (PenC cells (at_ + 1) rest)) := by
      have hd : flat (.lst (cells.map .int)) = true := flat_lst (n := 0) (fun a ha => by obtain ⟨i, _, rfl⟩ := List.mem_map.mp ha; exact dat_int _ _) (by decide)
      have hne : fNe (.lst (cells.map .int)) (.lst []) = some (.bl (!cells.isEmpty)) := by
        unfold fNe
        rw [hd]
        cases cells with
        | nil => rfl
        | cons c cs => rfl
      cases hcs : cells with
      | nil =>
        refine ⟨c1 * at_ + c2, fun x2 x5 => ?_⟩
        rw [hcs] at hne hd
        simp only [sSeq_eq, sIf_eq, tEx_eq, eOp2_eq, eVar_eq, eCon_eq, eLst_eq, esNil_eq, disp0, List.getElem?_cons_zero, List.getElem?_cons_succ, bind_ok, op2, hv (hs _), vw_v, Option.bind_some]
        have e0' : fIx (.lst [.lst (([] : List Int).map .int), .int (at_ + 1), .int rest]) (.int 0) = some (.lst (([] : List Int).map .int)) := rfl
        simp only [e0', ofV_some, bind_ok, vw_v, Option.bind_some, hne, truthW_bl, to_ok, List.isEmpty_nil, Bool.not_true, Bool.false_eq_true, if_false, sNil_eq, seq_nx]
      | cons c cs =>
        rw [← hcs]
        have hl : 1 ≤ (cells.length : Int) := by rw [hcs, List.length_cons]; omega
        obtain ⟨x, hx⟩ := getI_in (l := cells) (i := at_.fmod cells.length) (fmod_range hl).1 (fmod_range hl).2
        refine ⟨x, fun x2 x5 => ?_⟩
        have hie : cells.isEmpty = false := by rw [hcs]; rfl
        have hbl : bLen [.lst (cells.map .int)] = some (.int cells.length) := by show some (A.int ((cells.map A.int).length : Int)) = _; rw [List.length_map]
        have hix : fIx (.lst (cells.map .int)) (.int (at_.fmod cells.length)) = some (.int x) := hx
        simp only [sSeq_eq, sIf_eq, tEx_eq, eOp2_eq, eVar_eq, eCon_eq, eLst_eq, esNil_eq, disp0, List.getElem?_cons_zero, List.getElem?_cons_succ, bind_ok, op2, hv (hs _), vw_v, Option.bind_some, e0, ofV_some, hne, truthW_bl, to_ok, hie, Bool.not_false, if_true, sSet_eq, eFn_eq, esCons_eq, opL_1, bInt_int, hbl, fMod_int hl, hix, List.set, seq_nx, sNil_eq]
    obtain ⟨cell, hcell⟩ := cell
    have start : ∀ R : Stm, (sSeq (sIf (tEx (eOp2 fGt (eOp2 fIx (eVar 0) (eCon (.int 2))) (eCon (.int 0)))) (sSeq (sSet 2 (eFn bInt (esCons (eOp2 fIx (eVar 0) (eCon (.int 2))) esNil))) (sSeq (sSub (eVar 0) (eCon (.int 2)) (eOp2 fDiv (eVar 2) (eVar 1))) (sSeq (sRet (eOp2 fMod (eFn bInt (esCons (eVar 2) esNil)) (eVar 1))) sNil))) sNil) (sSeq (sSet 3 (eOp2 fIx (eVar 0) (eCon (.int 1)))) (sSeq (sSub (eVar 0) (eCon (.int 1)) (eOp2 fAdd (eVar 3) (eCon (.int 1)))) (sSeq (sSet 4 (eOp2 fAdd (eOp2 fMul (eCon (.int c1)) (eVar 3)) (eCon (.int c2)))) R)))) (run T d) [some (.cel p), some (.v (.int many)), none, none, none, none] st =
        R (run T d) [some (.cel p), some (.v (.int many)), none, some (.v (.int at_)), some (.v (.int (c1 * at_ + c2))), none] (st.set p (PenC cells (at_ + 1) rest)) := by
      intro R
      have hmul : fMul (.int c1) (.int at_) = some (.int (c1 * at_)) := fMul_int (.inl (by omega))
      rw [sSeq_eq, sIf_eq]
      simp only [tEx_eq, eOp2_eq, eVar_eq, eCon_eq, List.getElem?_cons_zero, List.getElem?_cons_succ, bind_ok, op2, hv hp, vw_v, Option.bind_some, e2, ofV_some, fGt_int, decide_eq_false h1, truthW_bl, to_ok, Bool.false_eq_true, if_false, sNil_eq, seq_nx]
      rw [sSeq_eq, sSet_eq]
      simp only [eOp2_eq, eVar_eq, eCon_eq, List.getElem?_cons_zero, List.getElem?_cons_succ, bind_ok, op2, hv hp, vw_v, Option.bind_some, e1, ofV_some, to_ok, List.set, seq_nx]
      rw [sSeq_eq, sub_pen1 (v := at_ + 1) rfl hp (by simp)]
      simp only [seq_nx]
      rw [sSeq_eq, sSet_eq]
      simp only [eOp2_eq, eVar_eq, eCon_eq, List.getElem?_cons_zero, List.getElem?_cons_succ, bind_ok, op2_v, hmul, ofV_some, fAdd_int, to_ok, List.set, seq_nx]
    have mid : ∀ R : Stm, (sSeq (sIf (tEx (eOp2 fNe (eOp2 fIx (eVar 0) (eCon (.int 0))) (eLst esNil))) (sSeq (sSet 4 (eOp2 fIx (eOp2 fIx (eVar 0) (eCon (.int 0))) (eOp2 fMod (eFn bInt (esCons (eVar 3) esNil)) (eFn bLen (esCons (eOp2 fIx (eVar 0) (eCon (.int 0))) esNil))))) sNil) sNil) R) (run T d) [some (.cel p), some (.v (.int many)), none, some (.v (.int at_)), some (.v (.int (c1 * at_ + c2))), none] (st.set p (PenC cells (at_ + 1) rest)) =
        R (run T d) [some (.cel p), some (.v (.int many)), none, some (.v (.int at_)), some (.v (.int cell)), none] (st.set p (PenC cells (at_ + 1) rest)) := by
      intro R
      have := hcell none none
      rw [sSeq_eq] at this ⊢
      generalize sIf (tEx (eOp2 fNe (eOp2 fIx (eVar 0) (eCon (.int 0))) (eLst esNil))) (sSeq (sSet 4 (eOp2 fIx (eOp2 fIx (eVar 0) (eCon (.int 0))) (eOp2 fMod (eFn bInt (esCons (eVar 3) esNil)) (eFn bLen (esCons (eOp2 fIx (eVar 0) (eCon (.int 0))) esNil))))) sNil) sNil (run T d) [some (.cel p), some (.v (.int many)), none, some (.v (.int at_)), some (.v (.int (c1 * at_ + c2))), none] (st.set p (PenC cells (at_ + 1) rest)) = X at this ⊢
      cases X with
      | nx e s => simp only [seq_nx, sNil_eq, SRes.nx.injEq] at this; obtain ⟨rfl, rfl⟩ := this; rfl
      | _ => simp at this
    have hbl : bLen [.lst (cells.map .int)] = some (.int cells.length) := by show some (A.int ((cells.map A.int).length : Int)) = _; rw [List.length_map]
    have hp18 : fPow (.int 10) (.int 18) = some (.int (10 ^ 18)) := fPow_int (k := 18) (by decide) (by decide)
    by_cases hbig : at_ < cells.length ∧ (if cell < 0 then -cell else cell) ≥ 10 ^ 18
    · -- a great one
      have hw0 : 0 ≤ 2 * ((if cell < 0 then -cell else cell) - 10 ^ 18) + (if decide (cell < 0) = true then (1 : Int) else 0) := by
        have := hbig.2
        split <;> omega
      generalize hW : 2 * ((if cell < 0 then -cell else cell) - 10 ^ 18) + (if decide (cell < 0) = true then (1 : Int) else 0) = W at hw0
      refine ⟨W.fmod many, at_ + 1, W.fdiv many, ?_, (fmod_range hm).1, (fmod_range hm).2, by omega, by omega, fdiv_nonneg hw0 hm⟩
      refine run_rt hT rfl ?_ (by simp)
      show drawB c1 c2 c3 c4 (run T d) [some (.cel p), some (.v (.int many)), none, none, none, none] st = _
      unfold drawB
      rw [start, mid]
      have hmul : ∀ x, fMul (.int 2) (.int x) = some (.int (2 * x)) := fun x => fMul_int (.inl (by omega))
      rw [sSeq_eq, sIf_eq]
      simp only [tAnd_eq, tEx_eq, eOp2_eq, eVar_eq, eCon_eq, eFn_eq, esCons_eq, esNil_eq, List.getElem?_cons_zero, List.getElem?_cons_succ, bind_ok, op2, hv (hs _), vw_v, Option.bind_some, e0, ofV_some, opL_1, hbl, fLt_int, decide_eq_true hbig.1, truthW_bl, if_true, bAbs_int, hp18, fGe_int, decide_eq_true hbig.2, to_ok]
      rw [sSeq_eq, sSet_eq]
      simp only [eOp2_eq, eVar_eq, eCon_eq, eFn_eq, esCons_eq, esNil_eq, List.getElem?_cons_zero, List.getElem?_cons_succ, bind_ok, op2_v, ofV_some, opL_1, bAbs_int, hp18, hmul, fSub_int, fLt_int, bInt_bl, fAdd_int, hW, to_ok, List.set, seq_nx]
      rw [sSeq_eq, sub_pen2 (v := W.fdiv many) rfl (hs _) (by simp [fDiv_int hm hm2])]
      simp [fMod_int hm]
    · -- a mixed one
      have hnot : ∀ x2 x5, (PV.tAnd (tEx (eOp2 fLt (eVar 3) (eFn bLen (esCons (eOp2 fIx (eVar 0) (eCon (.int 0))) esNil)))) (tEx (eOp2 fGe (eFn bAbs (esCons (eVar 4) esNil)) (eOp2 fPow (eCon (.int 10)) (eCon (.int 18)))))) (run T d) [some (.cel p), some (.v (.int many)), x2, some (.v (.int at_)), some (.v (.int cell)), x5] (st.set p (PenC cells (at_ + 1) rest)) = .ok false (st.set p (PenC cells (at_ + 1) rest)) := by
        intro x2 x5
        simp only [tAnd_eq, tEx_eq, eOp2_eq, eVar_eq, eCon_eq, eFn_eq, esCons_eq, esNil_eq, List.getElem?_cons_zero, List.getElem?_cons_succ, bind_ok, op2, hv (hs _), vw_v, Option.bind_some, e0, ofV_some, opL_1, hbl, fLt_int, truthW_bl, bAbs_int, hp18, fGe_int]
        by_cases h2 : at_ < cells.length
        · rw [decide_eq_true h2, decide_eq_false fun q => hbig ⟨h2, q⟩]; rfl
        · rw [decide_eq_false h2]; rfl
      have hM : (1 : Int) ≤ 2147483587 := by decide
      have hM2 : (1 : Int) ≤ 2147483563 := by decide
      have hM0 : (1 : Int) ≤ 2147483579 := by decide
      obtain ⟨a1, a2⟩ := fmod_range (i := cell) hM0
      obtain ⟨b1, b2⟩ := mul_bound k3.1 ha.1 k3.2 ha.2
      have p1 : (cell.fmod 2147483579 + c3 * at_ + c4).natAbs < 2 ^ 64 := by omega
      generalize hm1 : ((cell.fmod 2147483579 + c3 * at_ + c4) ^ 5).fmod 2147483587 = m1
      have r1 := fmod_range (i := (cell.fmod 2147483579 + c3 * at_ + c4) ^ 5) hM
      rw [hm1] at r1
      obtain ⟨d1, d2⟩ := mul_bound (a := m1) (b := 2 * at_ + c4) (A := 2147483587) (B := 3000000) r1.1 (by omega) (by omega) (by omega)
      obtain ⟨f1, f2⟩ := mul_bound (a := c3 * at_) (b := at_) (A := 1000000 * 1000000) (B := 1000000) b1 ha.1 b2 ha.2
      have p2 : (m1 * (2 * at_ + c4) + c3 * at_ * at_ + c1).natAbs < 2 ^ 64 := by omega
      generalize hm2' : ((m1 * (2 * at_ + c4) + c3 * at_ * at_ + c1) ^ 3).fmod 2147483563 = m2
      refine ⟨(m2.fdiv 64).fmod many, at_ + 1, rest, ?_, (fmod_range hm).1, (fmod_range hm).2, by omega, by omega, hr⟩
      refine run_rt hT rfl ?_ (by simp)
      show drawB c1 c2 c3 c4 (run T d) [some (.cel p), some (.v (.int many)), none, none, none, none] st = _
      unfold drawB
      rw [start, mid, sSeq_eq, sIf_eq, hnot]
      have q1 : fMul (.int c3) (.int at_) = some (.int (c3 * at_)) := fMul_int (.inl (by omega))
      have q2 : fMul (.int 2) (.int at_) = some (.int (2 * at_)) := fMul_int (.inl (by omega))
      have q3 : fMul (.int m1) (.int (2 * at_ + c4)) = some (.int (m1 * (2 * at_ + c4))) := fMul_int (.inl (by omega))
      have q4 : fMul (.int (c3 * at_)) (.int at_) = some (.int (c3 * at_ * at_)) := fMul_int (.inl (by omega))
      have q5 := fPow_int (k := 5) (by decide) p1
      have q6 := fPow_int (k := 3) (by decide) p2
      have q5 : fPow (.int (cell.fmod 2147483579 + c3 * at_ + c4)) (.int 5) = _ := q5
      have q6 : fPow (.int (m1 * (2 * at_ + c4) + c3 * at_ * at_ + c1)) (.int 3) = _ := q6
      have q7 : fDiv (.int m2) (.int 64) = some (.int (m2.fdiv 64)) := fDiv_int (by decide) (by decide)
      simp only [to_ok, Bool.false_eq_true, if_false, sNil_eq, seq_nx, sSeq_eq, sSet_eq, eOp2_eq, eVar_eq, eCon_eq, eFn_eq, esCons_eq, esNil_eq, List.getElem?_cons_zero, List.getElem?_cons_succ, bind_ok, op2_v, ofV_some, opL_1, bInt_int, fMod_int hM0, q1, fAdd_int, q5, fMod_int hM, hm1, List.set, q2, q3, q4, q6, fMod_int hM2, hm2', sRet_eq, q7, fMod_int hm, seq_rt]
end
end PV
end
section
set_option linter.all false
set_option Elab.async false
/-! PL10: the laws' own helpers. -/
namespace PV
/-- what draws, ahead of all that changes; so many draws are left -/
def penR (k : Nat) (tl st : Sto) : Prop := ∃ (C : List Int) (a r : Int), st = PenC C a r :: tl ∧ C.length ≤ 100 ∧ 0 ≤ a ∧ a + k ≤ 1000000 ∧ 0 ≤ r
theorem penR.mono {j k : Nat} {tl st : Sto} (h : penR k tl st) (hj : j ≤ k) : penR j tl st := by
  obtain ⟨C, a, r, h1, h2, h3, h4, h5⟩ := h
  exact ⟨C, a, r, h1, h2, h3, by omega, h5⟩
theorem penR.plain {k : Nat} {tl st : Sto} (h : penR k tl st) (ht : plainSto tl = true) : plainSto st = true := by
  obtain ⟨C, a, r, rfl, _⟩ := h
  exact ht
theorem penR.len {k : Nat} {tl st : Sto} (h : penR k tl st) : st.length = tl.length + 1 := by
  obtain ⟨C, a, r, rfl, _⟩ := h
  rfl
theorem penR.app {k : Nat} {tl st : Sto} (h : penR k tl st) (st' : Sto) : penR k (tl ++ st') (st ++ st') := by
  obtain ⟨C, a, r, rfl, q⟩ := h
  exact ⟨C, a, r, rfl, q⟩
theorem penR.tail {k : Nat} {tl st st' : Sto} (h : penR k (tl ++ st') st) : ∃ st0, st = st0 ++ st' ∧ penR k tl st0 := by
  obtain ⟨C, a, r, rfl, q⟩ := h
  exact ⟨PenC C a r :: tl, rfl, C, a, r, rfl, q⟩
theorem itSeq_celX {i n : Nat} {O : Orc} {env : Env} {st : Sto} {l : List A} (hi : env[i]? = some (some (.cel n))) (h : st[n]? = some (.lst l)) (hl : l.length ≤ Sz) : ∃ ok : Sto → Bool, itSeq (eVar i) O env st = .ok (l, ok) st ∧ ∀ st' : Sto, st'[n]? = some (.lst l) → ok st' = true :=
  ⟨_, itSeq_cel hi h hl, fun st' h' => by rw [h']; exact A.sameL_refl _⟩
/-- a comprehension whose elements draw -/
theorem lcGo_left {α : Type} {O : Orc} {tg : Tg} {x : Ex} {e : Env} {ok : Sto → Bool} (I : Nat → Sto → Prop) (g : α → A) (R : α → A → Prop) :
    ∀ (l : List α) (st : Sto), I l.length st → (∀ a ∈ l, ∀ k st, I (k + 1) st → ∃ e1 y st2, tg.put (g a) e = some e1 ∧ x O e1 st = .ok (.v y) st2 ∧ ok st2 = true ∧ I k st2 ∧ R a y) →
      ∃ ys st1, lcGo O tg tYes x e ok (l.map g) st = .ok ys st1 ∧ I 0 st1 ∧ ys.length = l.length ∧ ∀ y ∈ ys, ∃ a ∈ l, R a y
  | [], st, hI, _ => ⟨[], st, rfl, hI, rfl, fun _ h => nomatch h⟩
  | a :: l, st, hI, h => by
    obtain ⟨e1, y, st2, h1, h3, h4, h5, h6⟩ := h a List.mem_cons_self l.length st hI
    rw [List.map_cons]
    unfold lcGo
    obtain ⟨ys, st3, q1, q2, q3, q4⟩ := lcGo_left I g R l st2 h5 fun b hb => h b (List.mem_cons_of_mem _ hb)
    refine ⟨y :: ys, st3, ?_, q2, by simp [q3], fun z hz => ?_⟩
    · simp only [h1, tYes, bind_ok, if_true, h3, PV.W.val, of_some, h4, q1]
    · rcases List.mem_cons.mp hz with e | hz
      · subst e; exact ⟨a, List.mem_cons_self, h6⟩
      · obtain ⟨b, hb, q⟩ := q4 z hz
        exact ⟨b, List.mem_cons_of_mem _ hb, q⟩
theorem eLc_left {α : Type} {it : It} {tg : Tg} {own : List Nat} {x : Ex} {O : Orc} {env : Env} {st st0 : Sto} {ok : Sto → Bool} (I : Nat → Sto → Prop) (l : List α) (g : α → A) (R : α → A → Prop)
    (hit : it O env st0 = .ok (l.map g, ok) st) (hok : ok st = true) (hI : I l.length st) (h : ∀ a ∈ l, ∀ k st, I (k + 1) st → ∃ e1 y st2, tg.put (g a) (wipe env own) = some e1 ∧ x O e1 st = .ok (.v y) st2 ∧ ok st2 = true ∧ I k st2 ∧ R a y) :
    ∃ ys st1, eLc it tg own tYes x O env st0 = .ok (.v (.lst ys)) st1 ∧ I 0 st1 ∧ ys.length = l.length ∧ ∀ y ∈ ys, ∃ a ∈ l, R a y := by
  obtain ⟨ys, st1, q1, q2, q3, q4⟩ := lcGo_left I g R l st hI h
  refine ⟨ys, st1, ?_, q2, q3, q4⟩
  rw [eLc_eq, hit]
  simp only [bind_ok]
  rw [if_pos hok, q1]
  rfl
theorem upTo_map (n : Nat) : upTo 0 n = (List.range n).map fun (k : Nat) => A.int k := by
  unfold upTo
  exact List.map_congr_left fun k _ => by simp
theorem small_nat {n : Nat} (hn : n ≤ 1000000) : small (n : Int) = true := by
  unfold small
  have h1 : (2 : Int) ^ 62 = 4611686018427387904 := by decide
  rw [h1, decide_eq_true (by omega), decide_eq_true (by omega)]; rfl
theorem rng1_nat {n : Nat} (hn : n ≤ 1000000) (st : Sto) : rng1 (.v (.int n)) st = some ((List.range n).map fun (k : Nat) => A.int k, fun _ => true) := by
  have e : rng1 (.v (.int n)) st = if small (n : Int) then some (upTo 0 (n : Int).toNat, fun _ => true) else none := rfl
  rw [e, small_nat hn, if_pos rfl, Int.toNat_natCast, upTo_map]
theorem range_sz {n : Nat} (hn : n ≤ 1000000) : ((List.range n).map fun (k : Nat) => A.int k).length ≤ Sz := by
  rw [List.length_map, List.length_range]
  exact Nat.le_trans hn (Nat.le_of_ble_eq_true rfl)
theorem itRng_ok {O : Orc} {x : Ex} {env : Env} {st st1 : Sto} {n : Nat} (h : x O env st = .ok (.v (.int n)) st1) (hn : n ≤ 1000000) : itRng1 x O env st = .ok ((List.range n).map fun (k : Nat) => A.int k, fun _ => true) st1 := by
  rw [itRng1_eq, h, bind_ok, rng1_nat hn, itms_some _ (range_sz hn)]
section
variable {T : Nat → Option FnD} {d : Nat} {c1 c2 c3 c4 : Int}
structure PenT (T : Nat → Option FnD) (c1 c2 c3 c4 : Int) : Prop where
  t23 : T 23 = some (drawF c1 c2 c3 c4)
  k1 : 0 ≤ c1 ∧ c1 ≤ 1000000
  k3 : 0 ≤ c3 ∧ c3 ≤ 1000000
  k4 : 0 ≤ c4 ∧ c4 ≤ 1000000
theorem draw0 (h : PenT T c1 c2 c3 c4) {k : Nat} {tl st : Sto} (hp : penR (k + 1) tl st) {many : Int} (hm : 1 ≤ many) (hm2 : many < 1073741824) :
    ∃ r st', run T (d + 1) 23 [.cel 0, .v (.int many)] st = .ok (.v (.int r)) st' ∧ 0 ≤ r ∧ r < many ∧ penR k tl st' := by
  obtain ⟨C, a, r, rfl, q1, q2, q3, q4⟩ := hp
  obtain ⟨x, a', r', e, e1, e2, e3, e4, e5⟩ := draw_ok (d := d) h.t23 h.k1 h.k3 h.k4 (p := 0) (st := PenC C a r :: tl) rfl ⟨q2, by omega⟩ q4 q1 hm hm2
  exact ⟨x, _, e, e1, e2, C, a', r', rfl, q1, by omega, by omega, e5⟩
/-- the def that picks -/
def pickB : Stm := (sSeq (sRet (eOp2 fIx (eVar 1) (eCall 23 (esDef (esCons (eVar 0) (esCons (eFn bLen (esCons (eVar 1) esNil)) esNil)) [])))) sNil)
def pickF : FnD := ⟨2, 2, pickB, false⟩
theorem pick0 (h : PenT T c1 c2 c3 c4) (h24 : T 24 = some pickF) {k : Nat} {tl st : Sto} (hp : penR (k + 1) tl st) {x : A} {l : List A} (hx : x = .lst l ∨ x = .tup l) (hl : l ≠ []) (hz : l.length < 1000000) :
    ∃ a st', run T (d + 2) 24 [.cel 0, .v x] st = .ok (.v a) st' ∧ a ∈ l ∧ penR k tl st' := by
  have h1 : (1 : Int) ≤ l.length := by
    cases l with
    | nil => exact absurd rfl hl
    | cons a l => rw [List.length_cons]; omega
  obtain ⟨r, st', e, e1, e2, e3⟩ := draw0 (d := d) h hp h1 (show (l.length : Int) < 1073741824 by omega)
  obtain ⟨j, rfl⟩ : ∃ j : Nat, r = j := ⟨r.toNat, by omega⟩
  have hj : j < l.length := by omega
  refine ⟨l[j], st', ?_, List.getElem_mem _, e3⟩
  have hix : fIx x (.int j) = some l[j] := by rcases hx with rfl | rfl <;> exact getI_nat (List.getElem?_eq_getElem hj)
  have hbl : bLen [x] = some (.int l.length) := by rcases hx with rfl | rfl <;> rfl
  refine run_rt h24 rfl ?_ (by rw [e3.len, hp.len])
  show pickB (run T (d + 1)) [some (.cel 0), some (.v x)] st = _
  unfold pickB
  simp only [sSeq_eq, sRet_eq, eOp2_eq, eVar_eq, eCall_eq, esDef_eq, esCons_eq, eFn_eq, esNil_eq, List.getElem?_cons_zero, List.getElem?_cons_succ, bind_ok, opL_1, hbl, ofV_some, List.map_nil, List.append_nil]
  rw [e]
  simp only [bind_ok, op2_v, hix, ofV_some, to_ok, seq_rt]
/-- the def that begins -/
def penB : Stm := (sSeq (sRet (eNew (eLst (esCons (eLc (itSeq (eSl (eVar 0) none (some (eCon (.int 63))))) (.slot 2) [1, 2] PV.tYes (eFn bInt (esCons (eVar 2) esNil))) (esCons (eCon (.int 0)) (esCons (eCon (.int 0)) esNil)))))) sNil)
def penF : FnD := ⟨1, 3, penB, true⟩
theorem pen0 (h22 : T 22 = some penF) {zs : List Int} (hz : zs.length ≤ 63) : ∃ st', run T (d + 1) 22 [.v (.lst (zs.map .int))] [] = .ok (.cel 0) st' ∧ penR 1000000 [] st' := by
  refine ⟨[PenC zs 0 0], ?_, zs, 0, 0, rfl, by omega, by omega, by omega, by omega⟩
  have hc : cutA (zs.map A.int) none (some (63 : Int)) = zs.map A.int := by
    have := cut_lo (zs.map A.int) 63
    rw [show ((63 : Nat) : Int) = 63 from rfl] at this
    rw [this, List.take_of_length_le (by simpa using hz)]
  have k := eLc_yes (it := itSeq (eSl (eVar 0) none (some (eCon (.int 63))))) (tg := .slot 2) (own := [1, 2]) (x := eFn bInt (esCons (eVar 2) esNil)) (O := run T d) (env := [some (.v (.lst (zs.map .int))), none, none]) (st := []) zs A.int A.int (by
    rw [itSeq_eq, eSl_eq]
    simp only [eVar_eq, eCon_eq, List.getElem?_cons_zero, bind_ok, partO_none, partO_some, vw_v, Option.bind_some, fSl, hc, ofV_some, src_lst]
    rw [itms_some _ (by rw [List.length_map]; exact Nat.le_trans hz (by decide))]) rfl (by
    intro z _
    exact ⟨_, rfl, by simp [wipe]⟩)
  unfold run
  simp only [h22]
  unfold enter
  rw [if_pos (show [PV.W.v (A.lst (zs.map A.int))].length = penF.np from rfl)]
  have : penF.body (run T d) ([PV.W.v (.lst (zs.map A.int))].map some ++ List.replicate (penF.ns - penF.np) none) [] = .rt (.cel 0) [PenC zs 0 0] := by
    show penB (run T d) [some (.v (.lst (zs.map .int))), none, none] [] = _
    unfold penB
    simp only [sSeq_eq, sRet_eq, eNew_eq, eLst_eq, esCons_eq]
    rw [k]
    rfl
  rw [this]
  rfl
end
end PV
end
section
set_option linter.all false
set_option Elab.async false
/-! PM1: the mathematics of lines: order, least ones, greatest ones. -/
namespace PV
theorem leE_refl (v : Ent) : leE v v = true := by cases v <;> simp [leE]
theorem leE_trans {v w x : Ent} (h : leE v w = true) (h2 : leE w x = true) : leE v x = true := by
  cases v <;> cases w <;> cases x <;> simp_all [leE]
  omega
theorem leE_antisymm {v w : Ent} (h : leE v w = true) (h2 : leE w v = true) : v = w := by
  cases v <;> cases w <;> simp_all [leE]
  omega
theorem leE_total (v w : Ent) : leE v w = true ∨ leE w v = true := by
  cases v <;> cases w <;> simp [leE]
  omega
theorem leE_none (v : Ent) : leE v none = true := rfl
theorem ltE_of {v w : Ent} (h : leE v w = true) (h2 : v ≠ w) : ltE v w = true := by
  cases v <;> cases w <;> simp_all [leE, ltE]
  omega
theorem ltE_iff {v w : Ent} : ltE v w = true ↔ leE w v = false := by
  cases v <;> cases w <;> simp [leE, ltE]
theorem noGt_nil : noGt [] [] = true := rfl
theorem noGt_cons {v w : Ent} {a b : Line} : noGt (v :: a) (w :: b) = (leE v w && noGt a b) := by simp [noGt]
theorem noGt_refl : ∀ a : Line, noGt a a = true
  | [] => rfl
  | v :: a => by rw [noGt_cons, leE_refl, noGt_refl a]; rfl
theorem noGt_trans : ∀ {a b c : Line}, a.length = b.length → b.length = c.length → noGt a b = true → noGt b c = true → noGt a c = true
  | [], [], [], _, _, _, _ => rfl
  | v :: a, w :: b, x :: c, h1, h2, h3, h4 => by
    rw [noGt_cons, Bool.and_eq_true] at h3 h4 ⊢
    exact ⟨leE_trans h3.1 h4.1, noGt_trans (by simpa using h1) (by simpa using h2) h3.2 h4.2⟩
theorem noGt_antisymm : ∀ {a b : Line}, a.length = b.length → noGt a b = true → noGt b a = true → a = b
  | [], [], _, _, _ => rfl
  | v :: a, w :: b, h, h1, h2 => by
    rw [noGt_cons, Bool.and_eq_true] at h1 h2
    rw [leE_antisymm h1.1 h2.1, noGt_antisymm (by simpa using h) h1.2 h2.2]
theorem ltL_of : ∀ {a b : Line}, a.length = b.length → noGt a b = true → a ≠ b → ltL a b = true
  | [], [], _, _, h => absurd rfl h
  | v :: a, w :: b, h, h1, h2 => by
    rw [noGt_cons, Bool.and_eq_true] at h1
    unfold ltL
    rw [Bool.or_eq_true, Bool.and_eq_true]
    by_cases e : v = w
    · subst e
      exact .inr ⟨by rw [ltE_irrefl]; rfl, ltL_of (by simpa using h) h1.2 fun e => h2 (by rw [e])⟩
    · exact .inl (ltE_of h1.1 e)
/-- place by place -/
theorem noGt_get : ∀ {a b : Line}, a.length = b.length → (noGt a b = true ↔ ∀ (i : Nat) (v w : Ent), a[i]? = some v → b[i]? = some w → leE v w = true)
  | [], [], _ => by simp [noGt]
  | v :: a, w :: b, h => by
    rw [noGt_cons, Bool.and_eq_true, noGt_get (a := a) (b := b) (by simpa using h)]
    constructor
    · rintro ⟨h1, h2⟩ i x y e1 e2
      cases i with
      | zero => cases e1; cases e2; exact h1
      | succ i => exact h2 i x y (by simpa using e1) (by simpa using e2)
    · intro q
      exact ⟨q 0 v w rfl rfl, fun i x y e1 e2 => q (i + 1) x y (by simpa using e1) (by simpa using e2)⟩
theorem noGt_not {a b : Line} (h : a.length = b.length) (q : noGt a b = false) : ∃ (i : Nat) (v w : Ent), a[i]? = some v ∧ b[i]? = some w ∧ leE v w = false := by
  refine Classical.byContradiction fun hn => ?_
  have : noGt a b = true := (noGt_get h).mpr fun i v w e1 e2 => by
    cases e : leE v w with
    | true => rfl
    | false => exact absurd ⟨i, v, w, e1, e2, e⟩ hn
  rw [q] at this
  cases this
/-! ### what is kept -/
theorem keepL_app (r : Line → Line → Bool) : ∀ (ls acc : List Line), ∃ s, keepL r ls acc = acc ++ s ∧ s.Sublist ls
  | [], acc => ⟨[], by simp [keepL], List.Sublist.refl _⟩
  | l :: ls, acc => by
    unfold keepL
    split
    · obtain ⟨s, h1, h2⟩ := keepL_app r ls acc
      exact ⟨s, h1, h2.cons l⟩
    · obtain ⟨s, h1, h2⟩ := keepL_app r ls (acc ++ [l])
      exact ⟨l :: s, by rw [h1]; simp, h2.cons_cons l⟩
theorem keepL_go {r : Line → Line → Bool} {all : List Line} (refl : ∀ a ∈ all, r a a = true) (trans : ∀ a ∈ all, ∀ b ∈ all, ∀ c ∈ all, r a b = true → r b c = true → r a c = true) :
    ∀ (ls done acc : List Line), all = done ++ ls → ls.Pairwise (fun a b => r b a = false) → (∀ x ∈ acc, x ∈ done) → (∀ y ∈ done, ∃ z ∈ acc, r z y = true) → (∀ x ∈ acc, ∀ y ∈ all, r y x = true → y = x) →
      (∀ x ∈ keepL r ls acc, x ∈ all ∧ ∀ y ∈ all, r y x = true → y = x) ∧ ∀ y ∈ all, ∃ z ∈ keepL r ls acc, r z y = true
  | [], done, acc, ha, _, h1, h2, h3 => by
    rw [List.append_nil] at ha
    subst ha
    exact ⟨fun x hx => ⟨h1 x hx, h3 x hx⟩, h2⟩
  | l :: ls, done, acc, ha, hp, h1, h2, h3 => by
    have ha2 : all = (done ++ [l]) ++ ls := by rw [ha]; simp
    have hl : l ∈ all := by rw [ha]; simp
    have hd : ∀ {y}, y ∈ done → y ∈ all := fun hy => by rw [ha]; exact List.mem_append_left _ hy
    rw [List.pairwise_cons] at hp
    unfold keepL
    cases hc : acc.any fun one => r one l with
    | true =>
      simp only [if_true]
      obtain ⟨z, hz, hr⟩ := List.any_eq_true.mp hc
      refine keepL_go refl trans ls (done ++ [l]) acc ha2 hp.2 (fun x hx => List.mem_append_left _ (h1 x hx)) (fun y hy => ?_) h3
      rcases List.mem_append.mp hy with hy | hy
      · exact h2 y hy
      · rw [show y = l by simpa using hy]; exact ⟨z, hz, hr⟩
    | false =>
      simp only [Bool.false_eq_true, if_false]
      refine keepL_go refl trans ls (done ++ [l]) (acc ++ [l]) ha2 hp.2 (fun x hx => ?_) (fun y hy => ?_) fun x hx y hy hr => ?_
      · rcases List.mem_append.mp hx with hx | hx
        · exact List.mem_append_left _ (h1 x hx)
        · exact List.mem_append_right _ hx
      · rcases List.mem_append.mp hy with hy | hy
        · obtain ⟨z, hz, hr⟩ := h2 y hy
          exact ⟨z, List.mem_append_left _ hz, hr⟩
        · rw [show y = l by simpa using hy]; exact ⟨l, by simp, refl l hl⟩
      · rcases List.mem_append.mp hx with hx | hx
        · exact h3 x hx y hy hr
        · have ex : x = l := by simpa using hx
          subst ex
          rw [ha] at hy
          rcases List.mem_append.mp hy with hy2 | hy2
          · obtain ⟨z, hz, hr2⟩ := h2 y hy2
            have := trans z (hd (h1 z hz)) y (hd hy2) x hl hr2 hr
            exact absurd this (by
              have q := List.any_eq_false.mp hc z hz
              simpa using q)
          · rcases List.mem_cons.mp hy2 with e | hy2
            · exact e
            · have := hp.1 y hy2
              rw [this] at hr
              cases hr
theorem keepL_spec {r : Line → Line → Bool} {ls : List Line} (refl : ∀ a ∈ ls, r a a = true) (trans : ∀ a ∈ ls, ∀ b ∈ ls, ∀ c ∈ ls, r a b = true → r b c = true → r a c = true) (hp : ls.Pairwise fun a b => r b a = false) :
    (∀ x, x ∈ keepL r ls [] ↔ x ∈ ls ∧ ∀ y ∈ ls, r y x = true → y = x) ∧ ∀ y ∈ ls, ∃ z ∈ keepL r ls [], r z y = true := by
  obtain ⟨h1, h2⟩ := keepL_go refl trans ls [] [] rfl hp (fun _ h => nomatch h) (fun _ h => nomatch h) (fun _ h => nomatch h)
  refine ⟨fun x => ⟨h1 x, fun ⟨hx, hm⟩ => ?_⟩, h2⟩
  obtain ⟨z, hz, hr⟩ := h2 x hx
  have := hm z (h1 z hz).1 hr
  rw [← this]
  exact hz
/-- ascending, unlike -/
def Asc (l : List Line) : Prop := l.Nodup ∧ l.Pairwise fun a b => leL a b = true
theorem Asc.ext {l m : List Line} (h : Asc l) (h2 : Asc m) (e : ∀ x, x ∈ l ↔ x ∈ m) : l = m := asc_ext_L h.1 h2.1 h.2 h2.2 e
theorem asc_ordL (ls : List Line) : Asc (ordL ls) := ⟨nodup_ordL ls, sorted_ordL ls⟩
theorem Asc.lt {l : List Line} (h : Asc l) : l.Pairwise fun a b => ltL a b = true := by
  have := h.1.and h.2
  refine this.imp fun {a b} ⟨h1, h2⟩ => ?_
  rcases ltL_total a b with q | q | q
  · exact q
  · exact absurd q h1
  · unfold leL at h2
    rw [q] at h2
    cases h2
theorem Asc.ordL {l : List Line} (h : Asc l) : PV.ordL l = l := (asc_ordL l).ext h fun x => mem_ordL
section
variable {n : Nat} {ls : List Line}
theorem lAmong_spec (hw : Wide n ls) : (∀ x, x ∈ lAmong ls ↔ x ∈ ls ∧ ∀ y ∈ ls, noGt y x = true → y = x) ∧ (∀ y ∈ ls, ∃ z ∈ lAmong ls, noGt z y = true) ∧ Asc (lAmong ls) := by
  have hwo := hw.ordL
  obtain ⟨h1, h2⟩ := keepL_spec (r := noGt) (ls := ordL ls) (fun a _ => noGt_refl a) (fun a ha b hb c hc => noGt_trans (by rw [hwo a ha, hwo b hb]) (by rw [hwo b hb, hwo c hc])) (List.Pairwise.imp_of_mem (fun {a b} ha hb h => by
    cases e : noGt b a with
    | false => rfl
    | true =>
      by_cases q : b = a
      · subst q; rw [ltL_irrefl] at h; cases h
      · have := ltL_of (by rw [hwo a ha, hwo b hb]) e q
        rw [ltL_asymm h] at this
        cases this) (asc_ordL ls).lt)
  refine ⟨fun x => (h1 x).trans ⟨fun ⟨a, b⟩ => ⟨mem_ordL.mp a, fun y hy => b y (mem_ordL.mpr hy)⟩, fun ⟨a, b⟩ => ⟨mem_ordL.mpr a, fun y hy => b y (mem_ordL.mp hy)⟩⟩, fun y hy => h2 y (mem_ordL.mpr hy), ?_⟩
  obtain ⟨s, e, hs⟩ := keepL_app noGt (ordL ls) []
  have : lAmong ls = s := e
  rw [this]
  exact ⟨hs.nodup (asc_ordL ls).1, (asc_ordL ls).2.sublist hs⟩
theorem gAmong_spec (hw : Wide n ls) : (∀ x, x ∈ gAmong ls ↔ x ∈ ls ∧ ∀ y ∈ ls, noGt x y = true → y = x) ∧ (∀ y ∈ ls, ∃ z ∈ gAmong ls, noGt y z = true) ∧ Asc (gAmong ls) := by
  have hwo : ∀ a ∈ (ordL ls).reverse, a.length = n := fun a ha => hw.ordL a (List.mem_reverse.mp ha)
  have mr : ∀ {x}, x ∈ (ordL ls).reverse ↔ x ∈ ls := fun {x} => List.mem_reverse.trans mem_ordL
  obtain ⟨h1, h2⟩ := keepL_spec (r := fun one l => noGt l one) (ls := (ordL ls).reverse) (fun a _ => noGt_refl a) (fun a ha b hb c hc q1 q2 => noGt_trans (by rw [hwo b hb, hwo c hc]) (by rw [hwo a ha, hwo b hb]) q2 q1) (List.Pairwise.imp_of_mem (fun {a b} ha hb h => by
    cases e : noGt a b with
    | false => rfl
    | true =>
      by_cases q : a = b
      · subst q; rw [ltL_irrefl] at h; cases h
      · have := ltL_of (by rw [hwo a ha, hwo b hb]) e q
        rw [ltL_asymm h] at this
        cases this) (List.pairwise_reverse.mpr (asc_ordL ls).lt))
  refine ⟨fun x => (List.mem_reverse.trans (h1 x)).trans ⟨fun ⟨a, b⟩ => ⟨mr.mp a, fun y hy => b y (mr.mpr hy)⟩, fun ⟨a, b⟩ => ⟨mr.mpr a, fun y hy => b y (mr.mp hy)⟩⟩, fun y hy => ?_, ?_⟩
  · obtain ⟨z, hz, q⟩ := h2 y (mr.mpr hy)
    exact ⟨z, List.mem_reverse.mpr hz, q⟩
  obtain ⟨s, e, hs⟩ := keepL_app (fun one l => noGt l one) (ordL ls).reverse []
  have e2 : gAmong ls = s.reverse := by unfold gAmong; rw [e]; rfl
  rw [e2]
  have hs2 : s.reverse.Sublist (ordL ls) := by simpa using hs.reverse
  exact ⟨hs2.nodup (asc_ordL ls).1, (asc_ordL ls).2.sublist hs2⟩
end
end PV
end
section
set_option linter.all false
set_option Elab.async false
/-! PM2: what lies outside is told wholly. -/
namespace PV
/-- nothing of P stands below it | above it -/
def OutP (P : List Line) (y : Line) : Prop := ∀ p ∈ P, noGt p y = false
def InP (P : List Line) (x : Line) : Prop := ∀ p ∈ P, noGt x p = false
/-- entries from 0 on, None let or not -/
def okL (n : Nat) (wide : Bool) (y : Line) : Prop := y.length = n ∧ y.all (okE wide) = true
theorem okL.get {n : Nat} {w : Bool} {y : Line} (h : okL n w y) {i : Nat} {v : Ent} (e : y[i]? = some v) : okE w v = true := List.all_eq_true.mp h.2 v (List.mem_of_getElem? e)
theorem okL.wide {n : Nat} {w : Bool} {y : Line} (h : okL n w y) : okL n true y := ⟨h.1, List.all_eq_true.mpr fun v hv => by
  have := List.all_eq_true.mp h.2 v hv
  cases v with
  | none => rfl
  | some i => exact this⟩
structure InvA (n : Nat) (P found : List Line) : Prop where
  ok : ∀ y ∈ found, okL n true y
  out : ∀ y ∈ found, OutP P y
  all : ∀ x, okL n true x → OutP P x → ∃ y ∈ found, noGt x y = true
  anti : ∀ y ∈ found, ∀ z ∈ found, noGt y z = true → y = z
  nd : found.Nodup
structure InvB (n : Nat) (P found : List Line) : Prop where
  ok : ∀ y ∈ found, okL n false y
  out : ∀ y ∈ found, InP P y
  all : ∀ x, okL n false x → InP P x → ∃ y ∈ found, noGt y x = true
  anti : ∀ y ∈ found, ∀ z ∈ found, noGt y z = true → y = z
  nd : found.Nodup
theorem get_rep {α : Type} {n i : Nat} {a v : α} (h : (List.replicate n a)[i]? = some v) : v = a := (List.mem_replicate.mp (List.mem_of_getElem? h)).2
theorem invA_nil (n : Nat) : InvA n [] [List.replicate n none] := by
  refine ⟨fun y hy => ?_, (fun y _ p hp => nomatch hp), fun x hx _ => ⟨_, List.mem_singleton.mpr rfl, ?_⟩, fun y hy z hz _ => ?_, by simp⟩
  · rw [show y = List.replicate n none by simpa using hy]
    exact ⟨by simp, List.all_eq_true.mpr fun v hv => by rw [(List.mem_replicate.mp hv).2]; rfl⟩
  · refine (noGt_get (by rw [hx.1]; simp)).mpr fun i v w _ e => ?_
    rw [get_rep e]
    rfl
  · rw [show y = List.replicate n none by simpa using hy, show z = List.replicate n none by simpa using hz]
theorem invB_nil (n : Nat) : InvB n [] [List.replicate n (some 0)] := by
  refine ⟨fun y hy => ?_, (fun y _ p hp => nomatch hp), fun x hx _ => ⟨_, List.mem_singleton.mpr rfl, ?_⟩, fun y hy z hz _ => ?_, by simp⟩
  · rw [show y = List.replicate n (some 0) by simpa using hy]
    exact ⟨by simp, List.all_eq_true.mpr fun v hv => by rw [(List.mem_replicate.mp hv).2]; rfl⟩
  · refine (noGt_get (by rw [hx.1]; simp)).mpr fun i v w e e2 => ?_
    rw [get_rep e]
    have := hx.get e2
    cases w with
    | none => rfl
    | some j => simpa [okE, leE] using this
  · rw [show y = List.replicate n (some 0) by simpa using hy, show z = List.replicate n (some 0) by simpa using hz]
theorem len_zip {a b : Line} {f : Ent × Ent → Ent} (h : a.length = b.length) : ((a.zip b).map f).length = a.length := by simp [h]
theorem met_get {a b : Line} {i : Nat} {v w : Ent} (h1 : a[i]? = some v) (h2 : b[i]? = some w) : (metL a b)[i]? = some (metE v w) := by
  unfold metL
  rw [List.getElem?_map, (List.getElem?_zip_eq_some (z := (v, w))).mpr ⟨h1, h2⟩]
  rfl
theorem join_get {a b : Line} {i : Nat} {v w : Ent} (h1 : a[i]? = some v) (h2 : b[i]? = some w) : (joinL a b)[i]? = some (joinE v w) := by
  unfold joinL
  rw [List.getElem?_map, (List.getElem?_zip_eq_some (z := (v, w))).mpr ⟨h1, h2⟩]
  rfl
theorem metE_le1 (v w : Ent) : leE (metE v w) v = true := by
  cases v <;> cases w <;> simp [leE, metE]
  split <;> omega
theorem metE_le2 (v w : Ent) : leE (metE v w) w = true := by
  cases v <;> cases w <;> simp [leE, metE]
  split <;> omega
theorem le_metE {v w x : Ent} (h1 : leE x v = true) (h2 : leE x w = true) : leE x (metE v w) = true := by
  cases v <;> cases w <;> simp_all [metE]
  split <;> assumption
theorem joinE_ge1 (v w : Ent) : leE v (joinE v w) = true := by
  cases v <;> cases w <;> simp [leE, joinE]
  split <;> omega
theorem joinE_ge2 (v w : Ent) : leE w (joinE v w) = true := by
  cases v <;> cases w <;> simp [leE, joinE]
  split <;> omega
theorem joinE_le {v w x : Ent} (h1 : leE v x = true) (h2 : leE w x = true) : leE (joinE v w) x = true := by
  cases v <;> cases w <;> cases x <;> simp_all [joinE, leE]
  split <;> omega
theorem exists_get {α : Type} {l : List α} {i : Nat} (h : i < l.length) : ∃ v, l[i]? = some v := ⟨l[i], List.getElem?_eq_getElem h⟩
theorem get_lt {α : Type} {l : List α} {i : Nat} {v : α} (h : l[i]? = some v) : i < l.length := (List.getElem?_eq_some_iff.mp h).1
theorem met_le1 {n : Nat} {a b : Line} (ha : a.length = n) (hb : b.length = n) : noGt (metL a b) a = true := by
  refine (noGt_get (by rw [wide_metL ha hb, ha])).mpr fun i v w e1 e2 => ?_
  obtain ⟨u, e3⟩ := exists_get (l := b) (i := i) (by rw [hb, ← ha]; exact get_lt e2)
  rw [met_get e2 e3] at e1
  cases e1
  exact metE_le1 _ _
theorem join_ge1 {n : Nat} {a b : Line} (ha : a.length = n) (hb : b.length = n) : noGt a (joinL a b) = true := by
  refine (noGt_get (by rw [wide_joinL ha hb, ha])).mpr fun i v w e1 e2 => ?_
  obtain ⟨u, e3⟩ := exists_get (l := b) (i := i) (by rw [hb, ← ha]; exact get_lt e1)
  rw [join_get e1 e3] at e2
  cases e2
  exact joinE_ge1 _ _
theorem oneE_get {n k i : Nat} {w v : Ent} (hi : i < n) : (oneE n w k v)[i]? = some (if i = k then v else w) := by
  unfold oneE
  rw [List.getElem?_set]
  split
  · rename_i e
    subst e
    simp [hi]
  · rename_i e
    rw [if_neg fun q => e q.symm]
    simp [hi]
theorem mem_belowN {n : Nat} {l p : Line} : p ∈ belowN n l ↔ ∃ (k : Nat) (j : Int), l[k]? = some (some j) ∧ j > 0 ∧ p = oneE n none k (some (j - 1)) := by
  unfold belowN
  rw [List.mem_map]
  constructor
  · rintro ⟨⟨v, k⟩, h1, rfl⟩
    rw [List.mem_filter] at h1
    obtain ⟨h1, h2⟩ := h1
    have e := List.mem_zipIdx_iff_getElem?.mp h1
    cases v with
    | none => cases h2
    | some j => exact ⟨k, j, e, by simpa using h2, rfl⟩
  · rintro ⟨k, j, e, hj, rfl⟩
    exact ⟨(some j, k), List.mem_filter.mpr ⟨List.mem_zipIdx_iff_getElem?.mpr e, by simpa using hj⟩, rfl⟩
theorem mem_aboveN {n : Nat} {l p : Line} : p ∈ aboveN n l ↔ ∃ (k : Nat) (j : Int), l[k]? = some (some j) ∧ p = oneE n (some 0) k (some (j + 1)) := by
  unfold aboveN
  rw [List.mem_map]
  constructor
  · rintro ⟨⟨v, k⟩, h1, rfl⟩
    rw [List.mem_filter] at h1
    obtain ⟨h1, h2⟩ := h1
    have e := List.mem_zipIdx_iff_getElem?.mp h1
    cases v with
    | none => cases h2
    | some j => exact ⟨k, j, e, rfl⟩
  · rintro ⟨k, j, e, rfl⟩
    exact ⟨(some j, k), List.mem_filter.mpr ⟨List.mem_zipIdx_iff_getElem?.mpr e, rfl⟩, rfl⟩
theorem okE_met {v w : Ent} (h1 : okE true v = true) (h2 : okE true w = true) : okE true (metE v w) = true := by
  cases v <;> cases w <;> simp_all [okE, metE]
  split <;> simpa
theorem okE_join {v w : Ent} (h1 : okE false v = true) (h2 : okE false w = true) : okE false (joinE v w) = true := by
  cases v <;> cases w <;> simp_all [okE, joinE]
  split <;> simpa
theorem okL_met {n : Nat} {a b : Line} (ha : okL n true a) (hb : okL n true b) : okL n true (metL a b) := by
  refine ⟨wide_metL ha.1 hb.1, List.all_eq_true.mpr fun v hv => ?_⟩
  unfold metL at hv
  obtain ⟨⟨x, y⟩, hp, rfl⟩ := List.mem_map.mp hv
  obtain ⟨h1, h2⟩ := List.of_mem_zip hp
  exact okE_met (List.all_eq_true.mp ha.2 _ h1) (List.all_eq_true.mp hb.2 _ h2)
theorem okL_join {n : Nat} {a b : Line} (ha : okL n false a) (hb : okL n false b) : okL n false (joinL a b) := by
  refine ⟨wide_joinL ha.1 hb.1, List.all_eq_true.mpr fun v hv => ?_⟩
  unfold joinL at hv
  obtain ⟨⟨x, y⟩, hp, rfl⟩ := List.mem_map.mp hv
  obtain ⟨h1, h2⟩ := List.of_mem_zip hp
  exact okE_join (List.all_eq_true.mp ha.2 _ h1) (List.all_eq_true.mp hb.2 _ h2)
theorem okL_one {n k : Nat} {w v : Ent} {b : Bool} (h1 : okE b w = true) (h2 : okE b v = true) : okL n b (oneE n w k v) := by
  refine ⟨by simp [oneE], List.all_eq_true.mpr fun x hx => ?_⟩
  obtain ⟨i, hi, e⟩ := List.mem_iff_getElem.mp hx
  have hi' : i < n := by simpa [oneE] using hi
  have q := oneE_get (w := w) (v := v) (k := k) hi'
  rw [List.getElem?_eq_getElem hi, e] at q
  cases q
  split <;> assumption
section
variable {n : Nat} {P found : List Line} {line : Line}
theorem invA_step (h : InvA n P found) (hP : Wide n P) (hl : okL n false line) : InvA n (line :: P) (stepA n found line) := by
  have hw : Wide n found := fun y hy => (h.ok y hy).1
  have hwc := wide_candA (line := line) hw
  obtain ⟨g1, g2, g3⟩ := gAmong_spec hwc
  have part_ok : ∀ p ∈ belowN n line, okL n true p := fun p hp => by
    obtain ⟨k, j, e, hj, rfl⟩ := mem_belowN.mp hp
    refine okL_one rfl ?_
    have : (0 : Int) ≤ j - 1 := by omega
    simpa [okE] using this
  have cand_ok : ∀ x ∈ candA n found line, okL n true x := fun x hx => by
    obtain ⟨one, h1, _, p, h3, rfl⟩ := mem_candA.mp hx
    exact okL_met (h.ok one h1) (part_ok p h3)
  have later : ∀ x ∈ gAmong (candA n found line), ∃ one ∈ found, noGt line one = true ∧ noGt x one = true ∧ noGt line x = false := fun x hx => by
    obtain ⟨one, h1, h2, p, h3, rfl⟩ := mem_candA.mp (gAmong_sub hx)
    refine ⟨one, h1, h2, met_le1 (hw one h1) (wide_belowN h3), ?_⟩
    obtain ⟨k, j, e, hj, rfl⟩ := mem_belowN.mp h3
    cases q : noGt line (metL one (oneE n none k (some (j - 1)))) with
    | false => rfl
    | true =>
      have hk : k < n := by rw [← hl.1]; exact get_lt e
      obtain ⟨u, e1⟩ := exists_get (l := one) (i := k) (by rw [hw one h1]; exact hk)
      have e2 := oneE_get (n := n) (w := none) (v := some (j - 1)) (k := k) hk
      rw [if_pos rfl] at e2
      have := (noGt_get (by rw [hl.1, wide_metL (hw one h1) (by simp [oneE])])).mp q k _ _ e (met_get e1 e2)
      have := leE_trans this (metE_le2 _ _)
      simp [leE] at this
      omega
  refine ⟨fun y hy => ?_, fun y hy p hp => ?_, fun x hx ho => ?_, fun y hy z hz hyz => ?_, ?_⟩
  · rcases List.mem_append.mp hy with hy | hy
    · exact h.ok y (List.mem_filter.mp hy).1
    · exact cand_ok y (gAmong_sub (List.mem_filter.mp hy).1)
  · rcases List.mem_append.mp hy with hy | hy
    · obtain ⟨q1, q2⟩ := List.mem_filter.mp hy
      rcases List.mem_cons.mp hp with e | hp
      · rw [e]; simpa using q2
      · exact h.out y q1 p hp
    · obtain ⟨q1, q2⟩ := List.mem_filter.mp hy
      obtain ⟨one, o1, o2, o3, o4⟩ := later y q1
      rcases List.mem_cons.mp hp with e | hp
      · rw [e]; exact o4
      · cases q : noGt p y with
        | false => rfl
        | true =>
          have hy' := (cand_ok y (gAmong_sub q1)).1
          have ho := h.out one o1 p hp
          rw [noGt_trans (by rw [hP p hp, hy']) (by rw [hy', hw one o1]) q o3] at ho
          cases ho
  · obtain ⟨y, hy, hxy⟩ := h.all x hx fun p hp => ho p (List.mem_cons_of_mem _ hp)
    have hlx := ho line List.mem_cons_self
    have hyn := hw y hy
    cases q : noGt line y with
    | false => exact ⟨y, List.mem_append_left _ (List.mem_filter.mpr ⟨hy, by simp [q]⟩), hxy⟩
    | true =>
      obtain ⟨i, v, w, e1, e2, e3⟩ := noGt_not (by rw [hl.1, hx.1]) hlx
      have hv := hl.get e1
      have hwx := hx.get e2
      obtain ⟨b, rfl⟩ : ∃ b, v = some b := by cases v with
        | none => cases hv
        | some b => exact ⟨b, rfl⟩
      obtain ⟨a, rfl⟩ : ∃ a, w = some a := by cases w with
        | none => cases e3
        | some a => exact ⟨a, rfl⟩
      have hab : a < b := by simpa [leE] using e3
      have ha : 0 ≤ a := by simpa [okE] using hwx
      have hin : i < n := by rw [← hl.1]; exact get_lt e1
      have hpm : oneE n none i (some (b - 1)) ∈ belowN n line := mem_belowN.mpr ⟨i, b, e1, by omega, rfl⟩
      have hc : metL y (oneE n none i (some (b - 1))) ∈ candA n found line := mem_candA.mpr ⟨y, hy, q, _, hpm, rfl⟩
      have hxc : noGt x (metL y (oneE n none i (some (b - 1)))) = true := by
        refine (noGt_get (by rw [hx.1, wide_metL hyn (by simp [oneE])])).mpr fun k u t f1 f2 => ?_
        have hk : k < n := by rw [← hx.1]; exact get_lt f1
        obtain ⟨s, f3⟩ := exists_get (l := y) (i := k) (by rw [hyn]; exact hk)
        rw [met_get f3 (oneE_get hk)] at f2
        cases f2
        refine le_metE ((noGt_get (by rw [hx.1, hyn])).mp hxy k u s f1 f3) ?_
        split
        · rename_i e
          subst e
          rw [e2] at f1
          cases f1
          have : a ≤ b - 1 := by omega
          simpa [leE] using this
        · rfl
      obtain ⟨g, hg, hcg⟩ := g2 _ hc
      have hgn := (cand_ok g (gAmong_sub hg)).1
      have hxg : noGt x g = true := noGt_trans (by rw [hx.1, wide_metL hyn (by simp [oneE])]) (by rw [wide_metL hyn (by simp [oneE]), hgn]) hxc hcg
      cases q2 : (found.filter fun one => !noGt line one).any fun its => noGt g its with
      | false => exact ⟨g, List.mem_append_right _ (List.mem_filter.mpr ⟨hg, by simp only [q2]; rfl⟩), hxg⟩
      | true =>
        obtain ⟨its, hits, hgi⟩ := List.any_eq_true.mp q2
        exact ⟨its, List.mem_append_left _ hits, noGt_trans (by rw [hx.1, hgn]) (by rw [hgn, hw its (List.mem_filter.mp hits).1]) hxg hgi⟩
  · rcases List.mem_append.mp hy with hy | hy
    · obtain ⟨y1, y2⟩ := List.mem_filter.mp hy
      rcases List.mem_append.mp hz with hz | hz
      · exact h.anti y y1 z (List.mem_filter.mp hz).1 hyz
      · obtain ⟨one, o1, o2, o3, o4⟩ := later z (List.mem_filter.mp hz).1
        have hzn := (cand_ok z (gAmong_sub (List.mem_filter.mp hz).1)).1
        have e := h.anti y y1 one o1 (noGt_trans (by rw [hw y y1, hzn]) (by rw [hzn, hw one o1]) hyz o3)
        subst e
        rw [o2] at y2
        cases y2
    · obtain ⟨y1, y2⟩ := List.mem_filter.mp hy
      rcases List.mem_append.mp hz with hz | hz
      · have : ((found.filter fun one => !noGt line one).any fun its => noGt y its) = true := List.any_eq_true.mpr ⟨z, hz, hyz⟩
        rw [this] at y2
        cases y2
      · exact (((g1 y).mp y1).2 z (gAmong_sub (List.mem_filter.mp hz).1) hyz).symm
  · refine List.nodup_append.mpr ⟨h.nd.filter _, g3.1.filter _, fun a ha b hb e => ?_⟩
    subst e
    have : ((found.filter fun one => !noGt line one).any fun its => noGt a its) = true := List.any_eq_true.mpr ⟨a, ha, noGt_refl a⟩
    have hb2 := (List.mem_filter.mp hb).2
    rw [this] at hb2
    cases hb2
theorem invB_step (h : InvB n P found) (hP : Wide n P) (hl : okL n true line) : InvB n (line :: P) (stepB_L n found line) := by
  have hw : Wide n found := fun y hy => (h.ok y hy).1
  have hwc := wide_candB (line := line) hw
  obtain ⟨g1, g2, g3⟩ := lAmong_spec hwc
  have part_ok : ∀ p ∈ aboveN n line, okL n false p := fun p hp => by
    obtain ⟨k, j, e, rfl⟩ := mem_aboveN.mp hp
    refine okL_one rfl ?_
    have := hl.get e
    have : (0 : Int) ≤ j := by simpa [okE] using this
    have : (0 : Int) ≤ j + 1 := by omega
    simpa [okE] using this
  have cand_ok : ∀ x ∈ candB n found line, okL n false x := fun x hx => by
    obtain ⟨one, h1, _, p, h3, rfl⟩ := mem_candB.mp hx
    exact okL_join (h.ok one h1) (part_ok p h3)
  have later : ∀ x ∈ lAmong (candB n found line), ∃ one ∈ found, noGt one line = true ∧ noGt one x = true ∧ noGt x line = false := fun x hx => by
    obtain ⟨one, h1, h2, p, h3, rfl⟩ := mem_candB.mp (lAmong_sub hx)
    refine ⟨one, h1, h2, join_ge1 (hw one h1) (wide_aboveN h3), ?_⟩
    obtain ⟨k, j, e, rfl⟩ := mem_aboveN.mp h3
    cases q : noGt (joinL one (oneE n (some 0) k (some (j + 1)))) line with
    | false => rfl
    | true =>
      have hk : k < n := by rw [← hl.1]; exact get_lt e
      obtain ⟨u, e1⟩ := exists_get (l := one) (i := k) (by rw [hw one h1]; exact hk)
      have e2 := oneE_get (n := n) (w := some 0) (v := some (j + 1)) (k := k) hk
      rw [if_pos rfl] at e2
      have := (noGt_get (by rw [hl.1, wide_joinL (hw one h1) (by simp [oneE])])).mp q k _ _ (join_get e1 e2) e
      have := leE_trans (joinE_ge2 _ _) this
      simp [leE] at this
      omega
  refine ⟨fun y hy => ?_, fun y hy p hp => ?_, fun x hx ho => ?_, fun y hy z hz hyz => ?_, ?_⟩
  · rcases List.mem_append.mp hy with hy | hy
    · exact h.ok y (List.mem_filter.mp hy).1
    · exact cand_ok y (lAmong_sub (List.mem_filter.mp hy).1)
  · rcases List.mem_append.mp hy with hy | hy
    · obtain ⟨q1, q2⟩ := List.mem_filter.mp hy
      rcases List.mem_cons.mp hp with e | hp
      · rw [e]; simpa using q2
      · exact h.out y q1 p hp
    · obtain ⟨q1, q2⟩ := List.mem_filter.mp hy
      obtain ⟨one, o1, o2, o3, o4⟩ := later y q1
      rcases List.mem_cons.mp hp with e | hp
      · rw [e]; exact o4
      · cases q : noGt y p with
        | false => rfl
        | true =>
          have hy' := (cand_ok y (lAmong_sub q1)).1
          have ho := h.out one o1 p hp
          rw [noGt_trans (by rw [hw one o1, hy']) (by rw [hP p hp, hy']) o3 q] at ho
          cases ho
  · obtain ⟨y, hy, hxy⟩ := h.all x hx fun p hp => ho p (List.mem_cons_of_mem _ hp)
    have hlx := ho line List.mem_cons_self
    have hyn := hw y hy
    cases q : noGt y line with
    | false => exact ⟨y, List.mem_append_left _ (List.mem_filter.mpr ⟨hy, by simp [q]⟩), hxy⟩
    | true =>
      obtain ⟨i, v, w, e1, e2, e3⟩ := noGt_not (by rw [hl.1, hx.1]) hlx
      have hv := hl.get e2
      have hwx := hx.get e1
      obtain ⟨a, rfl⟩ : ∃ a, v = some a := by cases v with
        | none => cases hwx
        | some b => exact ⟨b, rfl⟩
      obtain ⟨b, rfl⟩ : ∃ b, w = some b := by cases w with
        | none => cases e3
        | some b => exact ⟨b, rfl⟩
      have hab : b < a := by simpa [leE] using e3
      have hb : 0 ≤ b := by simpa [okE] using hv
      have hin : i < n := by rw [← hl.1]; exact get_lt e2
      have hpm : oneE n (some 0) i (some (b + 1)) ∈ aboveN n line := mem_aboveN.mpr ⟨i, b, e2, rfl⟩
      have hc : joinL y (oneE n (some 0) i (some (b + 1))) ∈ candB n found line := mem_candB.mpr ⟨y, hy, q, _, hpm, rfl⟩
      have hxc : noGt (joinL y (oneE n (some 0) i (some (b + 1)))) x = true := by
        refine (noGt_get (by rw [hx.1, wide_joinL hyn (by simp [oneE])])).mpr fun k t u f2 f1 => ?_
        have hk : k < n := by rw [← hx.1]; exact get_lt f1
        obtain ⟨s, f3⟩ := exists_get (l := y) (i := k) (by rw [hyn]; exact hk)
        rw [join_get f3 (oneE_get hk)] at f2
        cases f2
        refine joinE_le ((noGt_get (by rw [hx.1, hyn])).mp hxy k s u f3 f1) ?_
        split
        · rename_i e
          subst e
          rw [e1] at f1
          cases f1
          have : b + 1 ≤ a := by omega
          simpa [leE] using this
        · have := hx.get f1
          cases u with
          | none => cases this
          | some c => simpa [okE, leE] using this
      obtain ⟨g, hg, hcg⟩ := g2 _ hc
      have hgn := (cand_ok g (lAmong_sub hg)).1
      have hxg : noGt g x = true := noGt_trans (by rw [hgn, wide_joinL hyn (by simp [oneE])]) (by rw [wide_joinL hyn (by simp [oneE]), hx.1]) hcg hxc
      cases q2 : (found.filter fun one => !noGt one line).any fun its => noGt its g with
      | false => exact ⟨g, List.mem_append_right _ (List.mem_filter.mpr ⟨hg, by simp only [q2]; rfl⟩), hxg⟩
      | true =>
        obtain ⟨its, hits, hgi⟩ := List.any_eq_true.mp q2
        exact ⟨its, List.mem_append_left _ hits, noGt_trans (by rw [hgn, hw its (List.mem_filter.mp hits).1]) (by rw [hx.1, hgn]) hgi hxg⟩
  · rcases List.mem_append.mp hz with hz | hz
    · obtain ⟨z1, z2⟩ := List.mem_filter.mp hz
      rcases List.mem_append.mp hy with hy | hy
      · exact h.anti y (List.mem_filter.mp hy).1 z z1 hyz
      · obtain ⟨one, o1, o2, o3, o4⟩ := later y (List.mem_filter.mp hy).1
        have hyn := (cand_ok y (lAmong_sub (List.mem_filter.mp hy).1)).1
        have e := h.anti one o1 z z1 (noGt_trans (by rw [hyn, hw one o1]) (by rw [hw z z1, hyn]) o3 hyz)
        subst e
        rw [o2] at z2
        cases z2
    · obtain ⟨z1, z2⟩ := List.mem_filter.mp hz
      rcases List.mem_append.mp hy with hy | hy
      · have : ((found.filter fun one => !noGt one line).any fun its => noGt its z) = true := List.any_eq_true.mpr ⟨y, hy, hyz⟩
        rw [this] at z2
        cases z2
      · exact ((g1 z).mp z1).2 y (lAmong_sub (List.mem_filter.mp hy).1) hyz
  · refine List.nodup_append.mpr ⟨h.nd.filter _, g3.1.filter _, fun a ha b hb e => ?_⟩
    subst e
    have : ((found.filter fun one => !noGt one line).any fun its => noGt its a) = true := List.any_eq_true.mpr ⟨a, ha, noGt_refl a⟩
    have hb2 := (List.mem_filter.mp hb).2
    rw [this] at hb2
    cases hb2
theorem InvA.perm {P P2 : List Line} (h : InvA n P found) (e : ∀ x, x ∈ P ↔ x ∈ P2) : InvA n P2 found := ⟨h.ok, fun y hy p hp => h.out y hy p ((e p).mpr hp), fun x hx ho => h.all x hx fun p hp => ho p ((e p).mp hp), h.anti, h.nd⟩
theorem InvB.perm {P P2 : List Line} (h : InvB n P found) (e : ∀ x, x ∈ P ↔ x ∈ P2) : InvB n P2 found := ⟨h.ok, fun y hy p hp => h.out y hy p ((e p).mpr hp), fun x hx ho => h.all x hx fun p hp => ho p ((e p).mp hp), h.anti, h.nd⟩
theorem invA_fold : ∀ (ls P found : List Line), InvA n P found → Wide n P → (∀ l ∈ ls, okL n false l) → InvA n (P ++ ls) (ls.foldl (stepA n) found)
  | [], P, found, h, _, _ => by simpa using h
  | l :: ls, P, found, h, hP, hl => by
    have q := invA_fold ls (l :: P) _ (invA_step h hP (hl l List.mem_cons_self)) (fun x hx => (List.mem_cons.mp hx).elim (fun e => by rw [e]; exact (hl l List.mem_cons_self).1) (hP x)) fun x hx => hl x (List.mem_cons_of_mem _ hx)
    exact q.perm fun x => by simp [or_left_comm, or_assoc]
theorem invB_fold : ∀ (ls P found : List Line), InvB n P found → Wide n P → (∀ l ∈ ls, okL n true l) → InvB n (P ++ ls) (ls.foldl (stepB_L n) found)
  | [], P, found, h, _, _ => by simpa using h
  | l :: ls, P, found, h, hP, hl => by
    have q := invB_fold ls (l :: P) _ (invB_step h hP (hl l List.mem_cons_self)) (fun x hx => (List.mem_cons.mp hx).elim (fun e => by rw [e]; exact (hl l List.mem_cons_self).1) (hP x)) fun x hx => hl x (List.mem_cons_of_mem _ hx)
    exact q.perm fun x => by simp [or_left_comm, or_assoc]
theorem invA_out (ls : List Line) (hl : ∀ l ∈ ls, okL n false l) : InvA n ls (outA n ls) := by
  simpa [outA] using invA_fold ls [] _ (invA_nil n) (fun _ h => nomatch h) hl
theorem invB_out (ls : List Line) (hl : ∀ l ∈ ls, okL n true l) : InvB n ls (outB n ls) := by
  simpa [outB] using invB_fold ls [] _ (invB_nil n) (fun _ h => nomatch h) hl
end
end PV
end
section
set_option linter.all false
set_option Elab.async false
/-! PM3: how many lines there can be outside of a few. -/
namespace PV
/-- an order, the entries that are let -/
structure OrdC (ord : Ent → Ent → Bool) (D Dp : Ent → Bool) : Prop where
  refl : ∀ v, ord v v = true
  trans : ∀ {v w x}, ord v w = true → ord w x = true → ord v x = true
  anti : ∀ {v w}, ord v w = true → ord w v = true → v = w
  total : ∀ v w, ord v w = true ∨ ord w v = true
  pred : ∀ p y, Dp p = true → D y = true → ord p y = false → ∃ m, D m = true ∧ ord p m = false ∧ ∀ v, D v = true → ord p v = false → ord v m = true
section
variable {ord : Ent → Ent → Bool} {D Dp : Ent → Bool}
def pw (ord : Ent → Ent → Bool) : Line → Line → Bool
  | [], [] => true
  | v :: a, w :: b => ord v w && pw ord a b
  | _, _ => false
/-- a greatest line that nothing of P stands below -/
structure Cor (ord : Ent → Ent → Bool) (D : Ent → Bool) (n : Nat) (P : List Line) (y : Line) : Prop where
  len : y.length = n
  ok : ∀ v ∈ y, D v = true
  out : ∀ p ∈ P, pw ord p y = false
  max : ∀ z : Line, z.length = n → (∀ v ∈ z, D v = true) → (∀ p ∈ P, pw ord p z = false) → pw ord y z = true → z = y
def Bd (ord : Ent → Ent → Bool) (D Dp : Ent → Bool) (n k b : Nat) : Prop := ∀ P : List Line, P.length ≤ k → (∀ p ∈ P, p.length = n ∧ ∀ v ∈ p, Dp v = true) → ∀ L : List Line, L.Nodup → (∀ y ∈ L, Cor ord D n P y) → L.length ≤ b
theorem pw_refl (O : OrdC ord D Dp) : ∀ a, pw ord a a = true
  | [] => rfl
  | v :: a => by simp [pw, O.refl, pw_refl O a]
theorem pw_trans (O : OrdC ord D Dp) : ∀ {a b c}, pw ord a b = true → pw ord b c = true → pw ord a c = true
  | [], [], [], _, _ => rfl
  | [], _ :: _, _, h, _ => by simp [pw] at h
  | _ :: _, [], _, h, _ => by simp [pw] at h
  | [], [], _ :: _, _, h => by simp [pw] at h
  | v :: a, w :: b, [], _, h => by simp [pw] at h
  | v :: a, w :: b, x :: c, h, h2 => by
    simp only [pw, Bool.and_eq_true] at h h2 ⊢
    exact ⟨O.trans h.1 h2.1, pw_trans O h.2 h2.2⟩
/-- the points that stand below at the first place -/
def low (ord : Ent → Ent → Bool) (v : Ent) : List Line → List Line
  | [] => []
  | (w :: p) :: P => if ord w v then p :: low ord v P else low ord v P
  | [] :: P => low ord v P
theorem mem_low {v : Ent} {p : Line} : ∀ {P : List Line}, p ∈ low ord v P ↔ ∃ w, w :: p ∈ P ∧ ord w v = true
  | [] => by simp [low]
  | [] :: P => by simp [low, mem_low (P := P)]
  | (w :: q) :: P => by
    unfold low
    split
    · rename_i h
      rw [List.mem_cons, mem_low (P := P)]
      constructor
      · rintro (e | ⟨u, h1, h2⟩)
        · subst e; exact ⟨w, List.mem_cons_self, h⟩
        · exact ⟨u, List.mem_cons_of_mem _ h1, h2⟩
      · rintro ⟨u, h1, h2⟩
        rcases List.mem_cons.mp h1 with e | h1
        · cases e; exact .inl rfl
        · exact .inr ⟨u, h1, h2⟩
    · rename_i h
      rw [mem_low (P := P)]
      constructor
      · rintro ⟨u, h1, h2⟩; exact ⟨u, List.mem_cons_of_mem _ h1, h2⟩
      · rintro ⟨u, h1, h2⟩
        rcases List.mem_cons.mp h1 with e | h1
        · cases e; exact absurd h2 h
        · exact ⟨u, h1, h2⟩
theorem len_low (v : Ent) : ∀ P : List Line, (low ord v P).length ≤ P.length
  | [] => Nat.zero_le _
  | [] :: P => Nat.le_succ_of_le (len_low v P)
  | (w :: q) :: P => by
    have := len_low v P
    unfold low
    split <;> simp <;> omega
theorem low_mono (O : OrdC ord D Dp) {v w : Ent} (h : ord v w = true) : ∀ P : List Line, (low ord v P).length ≤ (low ord w P).length ∧ ((low ord v P).length = (low ord w P).length → low ord v P = low ord w P)
  | [] => ⟨Nat.le_refl _, fun _ => rfl⟩
  | [] :: P => low_mono O h P
  | (u :: q) :: P => by
    obtain ⟨h1, h2⟩ := low_mono O h P
    unfold low
    by_cases a : ord u v = true
    · have b := O.trans a h
      rw [if_pos a, if_pos b]
      exact ⟨Nat.succ_le_succ h1, fun e => by rw [h2 (Nat.succ.inj e)]⟩
    · rw [if_neg a]
      split
      · exact ⟨Nat.le_succ_of_le h1, fun e => by rw [List.length_cons] at e; omega⟩
      · exact ⟨h1, h2⟩
/-- a part of a corner is a corner -/
theorem Cor.tail {n : Nat} {P : List Line} {v : Ent} {y : Line} (O : OrdC ord D Dp) (h : Cor ord D (n + 1) P (v :: y)) : Cor ord D n (low ord v P) y := by
  refine ⟨by simpa using h.len, fun w hw => h.ok w (List.mem_cons_of_mem _ hw), fun p hp => ?_, fun z hz hd ho hyz => ?_⟩
  · obtain ⟨w, hw, hv⟩ := mem_low.mp hp
    have := h.out _ hw
    simpa [pw, hv] using this
  · have := h.max (v :: z) (by simp [hz]) (fun w hw => (List.mem_cons.mp hw).elim (fun e => by rw [e]; exact h.ok v List.mem_cons_self) (hd w)) (fun p hp => ?_) (by simp [pw, O.refl, hyz])
    · exact (List.cons.inj this).2
    · cases p with
      | nil => rfl
      | cons w q =>
        unfold pw
        cases e : ord w v with
        | false => rfl
        | true => rw [ho q (mem_low.mpr ⟨w, hp, e⟩)]; rfl
/-- corners with the same part are one -/
theorem Cor.inj {n : Nat} {P : List Line} {v w : Ent} {y : Line} (O : OrdC ord D Dp) (h : Cor ord D (n + 1) P (v :: y)) (h2 : Cor ord D (n + 1) P (w :: y)) : v = w := by
  rcases O.total v w with e | e
  · exact (List.cons.inj (h.max _ h2.len h2.ok h2.out (by simp [pw, e, pw_refl O]))).1.symm
  · exact (List.cons.inj (h2.max _ h.len h.ok h.out (by simp [pw, e, pw_refl O]))).1
theorem len_parts {α : Type} (f : α → Nat) : ∀ (k : Nat) (L : List α), (∀ y ∈ L, f y ≤ k) → L.length ≤ ((List.range (k + 1)).map fun j => (L.filter fun y => f y == j).length).sum
  | 0, L, h => by
    have : (L.filter fun y => f y == 0) = L := List.filter_eq_self.mpr fun y hy => by
      have := h y hy
      have : f y = 0 := by omega
      simp [this]
    simp [this]
  | k + 1, L, h => by
    have ih := len_parts f k (L.filter fun y => f y != k + 1) fun y hy => by
      obtain ⟨h1, h2⟩ := List.mem_filter.mp hy
      have := h y h1
      have : f y ≠ k + 1 := by simpa using h2
      omega
    rw [List.range_succ, List.map_append, List.sum_append]
    have e1 : ((List.range (k + 1)).map fun j => ((L.filter fun y => f y != k + 1).filter fun y => f y == j).length) = (List.range (k + 1)).map fun j => (L.filter fun y => f y == j).length := by
      refine List.map_congr_left fun j hj => ?_
      have hj : j < k + 1 := List.mem_range.mp hj
      rw [List.filter_filter]
      congr 1
      refine List.filter_congr fun y _ => ?_
      by_cases e : f y = j
      · have : f y ≠ k + 1 := by omega
        simp [e]; omega
      · simp [e]
    rw [e1] at ih
    have e2 : L.length = (L.filter fun y => f y != k + 1).length + (L.filter fun y => f y == k + 1).length := by
      have := List.length_eq_countP_add_countP (fun y => f y != k + 1) (l := L)
      rw [List.countP_eq_length_filter, List.countP_eq_length_filter] at this
      rw [this]
      congr 2
      refine List.filter_congr fun y _ => ?_
      cases e : f y == k + 1 <;> simp_all
    simp only [List.map_cons, List.map_nil, List.sum_cons, List.sum_nil, Nat.add_zero]
    omega
theorem sum_le {f g : Nat → Nat} : ∀ l : List Nat, (∀ j ∈ l, f j ≤ g j) → (l.map f).sum ≤ (l.map g).sum
  | [], _ => Nat.le_refl _
  | j :: l, h => by
    have := sum_le l fun i hi => h i (List.mem_cons_of_mem _ hi)
    have := h j List.mem_cons_self
    simp
    omega
theorem bd_step (O : OrdC ord D Dp) {n k : Nat} {f : Nat → Nat} (h : ∀ j ≤ k, Bd ord D Dp n j (f j)) : Bd ord D Dp (n + 1) k ((List.range (k + 1)).map f).sum := by
  intro P hP hw L hL hc
  let idx : Line → Nat := fun y => match y with
    | [] => 0
    | v :: _ => (low ord v P).length
  have hi : ∀ y ∈ L, idx y ≤ k := fun y hy => by
    cases y with
    | nil => exact Nat.zero_le _
    | cons v y => exact Nat.le_trans (len_low v P) hP
  refine Nat.le_trans (len_parts idx k L hi) (sum_le _ fun j hj => ?_)
  have hj : j ≤ k := by have := List.mem_range.mp hj; omega
  have hcf : ∀ y ∈ L.filter fun y => idx y == j, ∃ v q, y = v :: q ∧ (low ord v P).length = j ∧ Cor ord D (n + 1) P (v :: q) := fun y hy => by
    obtain ⟨h1, h2⟩ := List.mem_filter.mp hy
    have c := hc y h1
    cases y with
    | nil => have := c.len; cases this
    | cons v q => exact ⟨v, q, rfl, by simpa [idx] using h2, c⟩
  cases hL2 : L.filter fun y => idx y == j with
  | nil => exact Nat.zero_le _
  | cons y0 r =>
    obtain ⟨v0, q0, e0, l0, c0⟩ := hcf y0 (by rw [hL2]; exact List.mem_cons_self)
    have same : ∀ v q, v :: q ∈ (L.filter fun y => idx y == j) → low ord v P = low ord v0 P := fun v q hy => by
      obtain ⟨v', q', e, l, c⟩ := hcf _ hy
      cases e
      rcases O.total v v0 with t | t
      · exact (low_mono O t P).2 (by rw [l, l0])
      · exact ((low_mono O t P).2 (by rw [l, l0])).symm
    have := h j hj (low ord v0 P) (Nat.le_of_eq l0) (fun p hp => by obtain ⟨u, hu, _⟩ := mem_low.mp hp; obtain ⟨w1, w2⟩ := hw _ hu; exact ⟨by simpa using w1, fun v hv => w2 v (List.mem_cons_of_mem _ hv)⟩) ((L.filter fun y => idx y == j).map List.tail) (by
      refine List.pairwise_map.mpr (List.Pairwise.imp_of_mem (fun {a b} ha hb hab e => ?_) (hL.filter _))
      obtain ⟨v, q, rfl, _, c⟩ := hcf a ha
      obtain ⟨w, q2, rfl, _, c2⟩ := hcf b hb
      have e : q = q2 := e
      subst e
      rw [Cor.inj O c c2] at hab
      exact hab rfl) (fun y hy => by
      obtain ⟨z, hz, rfl⟩ := List.mem_map.mp hy
      obtain ⟨v, q, rfl, _, c⟩ := hcf z hz
      have := c.tail O
      rw [same v q hz] at this
      exact this)
    rw [hL2, List.length_map] at this
    exact this
theorem bd_0 (k : Nat) : Bd ord D Dp 0 k 1 := by
  intro P _ _ L hL hc
  cases L with
  | nil => exact Nat.zero_le _
  | cons a L =>
    cases L with
    | nil => exact Nat.le_refl _
    | cons b L =>
      have h1 : a = [] := List.length_eq_zero_iff.mp (hc a List.mem_cons_self).len
      have h2 : b = [] := List.length_eq_zero_iff.mp (hc b (by simp)).len
      subst h1 h2
      simp at hL
/-! ### two places, points that come one by one -/
theorem two_of {y : Line} (h : y.length = 2) : ∃ a b, y = [a, b] := by
  match y, h with
  | [a, b], _ => exact ⟨a, b, rfl⟩
/-- at its place as great as the new point lets -/
def Tagd (ord : Ent → Ent → Bool) (D : Ent → Bool) (q v : Ent) : Prop := ord q v = false ∧ ∀ u, D u = true → ord q u = false → ord u v = true
theorem cor_new (O : OrdC ord D Dp) {q0 q1 a b : Ent} {Q : List Line} (p0 : Dp q0 = true) (p1 : Dp q1 = true) (h : Cor ord D 2 ([q0, q1] :: Q) [a, b]) (hn : ¬ Cor ord D 2 Q [a, b]) : Tagd ord D q0 a ∨ Tagd ord D q1 b := by
  have ex : ∃ z : Line, z.length = 2 ∧ (∀ v ∈ z, D v = true) ∧ (∀ p ∈ Q, pw ord p z = false) ∧ pw ord [a, b] z = true ∧ z ≠ [a, b] := by
    refine Classical.byContradiction fun hx => hn ⟨rfl, h.ok, fun p hp => h.out p (List.mem_cons_of_mem _ hp), fun z h1 h2 h3 h4 => ?_⟩
    exact Classical.byContradiction fun e => hx ⟨z, h1, h2, h3, h4, e⟩
  obtain ⟨z, z1, z2, z3, z4, z5⟩ := ex
  obtain ⟨c, d, rfl⟩ := two_of z1
  have hq : pw ord [q0, q1] [c, d] = true := by
    cases e : pw ord [q0, q1] [c, d] with
    | true => rfl
    | false => exact absurd (h.max _ z1 z2 (fun p hp => (List.mem_cons.mp hp).elim (fun e2 => by rw [e2]; exact e) (z3 p)) z4) z5
  simp only [pw, Bool.and_true, Bool.and_eq_true] at hq z4
  have hy := h.out _ List.mem_cons_self
  simp only [pw, Bool.and_true, Bool.and_eq_false_iff] at hy
  have down : ∀ u w, ord u c = true → ord w d = true → ∀ p ∈ Q, pw ord p [u, w] = false := fun u w h1 h2 p hp => by
    cases e : pw ord p [u, w] with
    | false => rfl
    | true =>
      have q := z3 p hp
      rw [pw_trans O e (by simp [pw, h1, h2] : pw ord [u, w] [c, d] = true)] at q
      cases q
  have da := h.ok a (by simp)
  have db := h.ok b (by simp)
  rcases hy with hy | hy
  · left
    obtain ⟨m, m1, m2, m3⟩ := O.pred q0 a p0 da hy
    have mc : ord m c = true := by
      rcases O.total m c with t | t
      · exact t
      · rw [O.trans hq.1 t] at m2; cases m2
    have := h.max [m, b] rfl (fun v hv => by
      simp at hv
      rcases hv with rfl | rfl
      · exact m1
      · exact db) (fun p hp => by
      rcases List.mem_cons.mp hp with e | hp
      · rw [e]; simp [pw, m2]
      · exact down m b mc z4.2 p hp) (by simp [pw, m3 a da hy, O.refl])
    have e : m = a := (List.cons.inj this).1
    subst e
    exact ⟨m2, m3⟩
  · right
    obtain ⟨m, m1, m2, m3⟩ := O.pred q1 b p1 db hy
    have mc : ord m d = true := by
      rcases O.total m d with t | t
      · exact t
      · rw [O.trans hq.2 t] at m2; cases m2
    have := h.max [a, m] rfl (fun v hv => by
      simp at hv
      rcases hv with rfl | rfl
      · exact da
      · exact m1) (fun p hp => by
      rcases List.mem_cons.mp hp with e | hp
      · rw [e]; simp [pw, m2]
      · exact down a m z4.1 mc p hp) (by simp [pw, m3 b db hy, O.refl])
    have e : m = b := (List.cons.inj (List.cons.inj this).2).1
    subst e
    exact ⟨m2, m3⟩
theorem le_one {L : List Line} {C : Line → Prop} (hL : L.Nodup) (h : ∀ y ∈ L, ∀ z ∈ L, y = z) : L.length ≤ 1 := by
  match L, hL, h with
  | [], _, _ => exact Nat.zero_le _
  | [_], _, _ => exact Nat.le_refl _
  | a :: b :: _, hL, h =>
    have := h a (by simp) b (by simp)
    subst this
    simp at hL
open Classical in
theorem chain_two (O : OrdC ord D Dp) : ∀ (Q L : List Line), (∀ q ∈ Q, q.length = 2 ∧ ∀ v ∈ q, Dp v = true) → L.Nodup → (∀ y ∈ L, ∃ S, S <:+ Q ∧ Cor ord D 2 S y) → L.length ≤ 2 * Q.length + 1
  | [], L, _, hL, hc => by
    refine le_one (C := fun _ => True) hL fun y hy z hz => ?_
    obtain ⟨S, hS, c⟩ := hc y hy
    obtain ⟨S2, hS2, c2⟩ := hc z hz
    have e1 : S = [] := List.suffix_nil.mp hS
    have e2 : S2 = [] := List.suffix_nil.mp hS2
    subst e1 e2
    obtain ⟨a, b, rfl⟩ := two_of c.len
    obtain ⟨a2, b2, rfl⟩ := two_of c2.len
    have da := c.ok a (by simp)
    have db := c.ok b (by simp)
    have da2 := c2.ok a2 (by simp)
    have db2 := c2.ok b2 (by simp)
    have mk : ∀ u w, D u = true → D w = true → ∀ v ∈ [u, w], D v = true := fun u w hu hw v hv => by
      simp at hv
      rcases hv with rfl | rfl
      · exact hu
      · exact hw
    have o1 : ord a2 a = true := by
      rcases O.total a a2 with t | t
      · have := c.max [a2, b] rfl (mk _ _ da2 db) (fun _ h => nomatch h) (by simp [pw, t, O.refl])
        rw [(List.cons.inj this).1]; exact O.refl _
      · exact t
    have o2 : ord b2 b = true := by
      rcases O.total b b2 with t | t
      · have := c.max [a, b2] rfl (mk _ _ da db2) (fun _ h => nomatch h) (by simp [pw, t, O.refl])
        rw [(List.cons.inj (List.cons.inj this).2).1]; exact O.refl _
      · exact t
    exact c2.max [a, b] rfl c.ok (fun _ h => nomatch h) (by simp [pw, o1, o2])
  | q :: Q, L, hq, hL, hc => by
    obtain ⟨hq1, hq2⟩ := hq q List.mem_cons_self
    obtain ⟨q0, q1, rfl⟩ := two_of hq1
    have p0 := hq2 q0 (by simp)
    have p1 := hq2 q1 (by simp)
    have ih := chain_two O Q (L.filter fun y => decide (∃ S, S <:+ Q ∧ Cor ord D 2 S y)) (fun p hp => hq p (List.mem_cons_of_mem _ hp)) (hL.filter _) fun y hy => by simpa using (List.mem_filter.mp hy).2
    have rest : ∀ y ∈ L.filter (fun y => !decide (∃ S, S <:+ Q ∧ Cor ord D 2 S y)), Cor ord D 2 ([q0, q1] :: Q) y ∧ ¬ Cor ord D 2 Q y := fun y hy => by
      obtain ⟨h1, h2⟩ := List.mem_filter.mp hy
      have h2 : ¬ ∃ S, S <:+ Q ∧ Cor ord D 2 S y := by simpa using h2
      obtain ⟨S, hS, c⟩ := hc y h1
      rcases List.suffix_cons_iff.mp hS with e | hS
      · subst e
        exact ⟨c, fun c2 => h2 ⟨Q, List.suffix_refl _, c2⟩⟩
      · exact absurd ⟨S, hS, c⟩ h2
    have hN := hL.filter (fun y => !decide (∃ S, S <:+ Q ∧ Cor ord D 2 S y))
    have two : (L.filter fun y => !decide (∃ S, S <:+ Q ∧ Cor ord D 2 S y)).length ≤ 2 := by
      generalize (L.filter fun y => !decide (∃ S, S <:+ Q ∧ Cor ord D 2 S y)) = M at rest hN
      have e := List.length_eq_countP_add_countP (fun y : Line => decide (Tagd ord D q0 (y.headD none))) (l := M)
      rw [List.countP_eq_length_filter, List.countP_eq_length_filter] at e
      have l1 : (M.filter fun y : Line => decide (Tagd ord D q0 (y.headD none))).length ≤ 1 := le_one (C := fun _ => True) (hN.filter _) fun y hy z hz => by
        obtain ⟨y1, y2⟩ := List.mem_filter.mp hy
        obtain ⟨z1, z2⟩ := List.mem_filter.mp hz
        obtain ⟨c, _⟩ := rest y y1
        obtain ⟨c2, _⟩ := rest z z1
        obtain ⟨a, b, rfl⟩ := two_of c.len
        obtain ⟨a2, b2, rfl⟩ := two_of c2.len
        have t1 : Tagd ord D q0 a := by simpa using y2
        have t2 : Tagd ord D q0 a2 := by simpa using z2
        have ea : a = a2 := O.anti (t2.2 a (c.ok a (by simp)) t1.1) (t1.2 a2 (c2.ok a2 (by simp)) t2.1)
        subst ea
        rcases O.total b b2 with t | t
        · exact (c.max _ rfl c2.ok c2.out (by simp [pw, t, O.refl])).symm
        · exact c2.max _ rfl c.ok c.out (by simp [pw, t, O.refl])
      have l2 : (M.filter fun y : Line => decide ¬(decide (Tagd ord D q0 (y.headD none))) = true).length ≤ 1 := le_one (C := fun _ => True) (hN.filter _) fun y hy z hz => by
        obtain ⟨y1, y2⟩ := List.mem_filter.mp hy
        obtain ⟨z1, z2⟩ := List.mem_filter.mp hz
        obtain ⟨c, cn⟩ := rest y y1
        obtain ⟨c2, cn2⟩ := rest z z1
        obtain ⟨a, b, rfl⟩ := two_of c.len
        obtain ⟨a2, b2, rfl⟩ := two_of c2.len
        have y2 : ¬ Tagd ord D q0 a := by simpa using y2
        have z2 : ¬ Tagd ord D q0 a2 := by simpa using z2
        have t1 : Tagd ord D q1 b := (cor_new O p0 p1 c cn).resolve_left y2
        have t2 : Tagd ord D q1 b2 := (cor_new O p0 p1 c2 cn2).resolve_left z2
        have eb : b = b2 := O.anti (t2.2 b (c.ok b (by simp)) t1.1) (t1.2 b2 (c2.ok b2 (by simp)) t2.1)
        subst eb
        rcases O.total a a2 with t | t
        · exact (c.max _ rfl c2.ok c2.out (by simp [pw, t, O.refl])).symm
        · exact c2.max _ rfl c.ok c.out (by simp [pw, t, O.refl])
      omega
    have e := List.length_eq_countP_add_countP (fun y : Line => decide (∃ S, S <:+ Q ∧ Cor ord D 2 S y)) (l := L)
    rw [List.countP_eq_length_filter, List.countP_eq_length_filter] at e
    have e2 : (L.filter fun y => decide ¬(decide (∃ S, S <:+ Q ∧ Cor ord D 2 S y)) = true) = L.filter fun y => !decide (∃ S, S <:+ Q ∧ Cor ord D 2 S y) := List.filter_congr fun y _ => by
      cases decide (∃ S, S <:+ Q ∧ Cor ord D 2 S y) <;> rfl
    rw [e2] at e
    simp only [List.length_cons]
    omega
/-- a corner hangs on the members alone -/
theorem Cor.perm {n : Nat} {P P2 : List Line} {y : Line} (h : Cor ord D n P y) (e : ∀ x, x ∈ P2 ↔ x ∈ P) : Cor ord D n P2 y := ⟨h.len, h.ok, fun p hp => h.out p ((e p).mp hp), fun z h1 h2 h3 h4 => h.max z h1 h2 (fun p hp => h3 p ((e p).mpr hp)) h4⟩
theorem low_suffix (O : OrdC ord D Dp) (v : Ent) : ∀ P : List Line, (∀ p ∈ P, p ≠ []) → P.Pairwise (fun p q => ord (q.headD none) (p.headD none) = true) → low ord v P <:+ P.map List.tail
  | [], _, _ => List.suffix_refl _
  | [] :: P, h, _ => absurd rfl (h [] List.mem_cons_self)
  | (w :: q) :: P, h, hp => by
    rw [List.pairwise_cons] at hp
    have hne := fun p hp => h p (List.mem_cons_of_mem _ hp)
    unfold low
    by_cases e : ord w v = true
    · rw [if_pos e]
      have all : low ord v P = P.map List.tail := by
        have go : ∀ R : List Line, (∀ p ∈ R, p ≠ [] ∧ ord (p.headD none) v = true) → low ord v R = R.map List.tail := by
          intro R
          induction R with
          | nil => intro _; rfl
          | cons p R ih =>
            intro hR
            obtain ⟨h1, h2⟩ := hR p List.mem_cons_self
            cases p with
            | nil => exact absurd rfl h1
            | cons u s =>
              unfold low
              rw [if_pos (by simpa using h2), ih fun x hx => hR x (List.mem_cons_of_mem _ hx)]
              rfl
        exact go P fun p hp2 => ⟨hne p hp2, O.trans (by simpa using hp.1 p hp2) e⟩
      rw [all]
      exact List.suffix_refl _
    · rw [if_neg e]
      exact (low_suffix O v P hne hp.2).trans (List.suffix_cons _ _)
theorem bd_3 (O : OrdC ord D Dp) (k : Nat) : Bd ord D Dp 3 k (2 * k + 1) := by
  intro P hP hw L hL hc
  let R := P.mergeSort fun p q => ord (q.headD none) (p.headD none)
  have hR : ∀ x, x ∈ R ↔ x ∈ P := fun x => List.mem_mergeSort
  have hs : R.Pairwise fun p q => ord (q.headD none) (p.headD none) = true := List.pairwise_mergeSort (le := fun p q : Line => ord (q.headD none) (p.headD none)) (fun a b c h1 h2 => O.trans h2 h1) (fun a b => by
    rw [Bool.or_eq_true]
    exact O.total _ _) P
  have hne : ∀ p ∈ R, p ≠ [] := fun p hp e => by
    have := (hw p ((hR p).mp hp)).1
    rw [e] at this
    cases this
  have hcR : ∀ y ∈ L, ∃ v q, y = v :: q ∧ Cor ord D 3 R (v :: q) := fun y hy => by
    have c := (hc y hy).perm hR
    cases y with
    | nil => have := c.len; cases this
    | cons v q => exact ⟨v, q, rfl, c⟩
  have := chain_two O (R.map List.tail) (L.map List.tail) (fun q hq => by
    obtain ⟨p, hp, rfl⟩ := List.mem_map.mp hq
    obtain ⟨w1, w2⟩ := hw p ((hR p).mp hp)
    exact ⟨by rw [List.length_tail, w1], fun v hv => w2 v (List.mem_of_mem_tail hv)⟩) (by
    refine List.pairwise_map.mpr (List.Pairwise.imp_of_mem (fun {a b} ha hb hab e => ?_) hL)
    obtain ⟨v, q, rfl, c⟩ := hcR a ha
    obtain ⟨w, q2, rfl, c2⟩ := hcR b hb
    have e : q = q2 := e
    subst e
    rw [Cor.inj O c c2] at hab
    exact hab rfl) (fun y hy => by
    obtain ⟨z, hz, rfl⟩ := List.mem_map.mp hy
    obtain ⟨v, q, rfl, c⟩ := hcR z hz
    exact ⟨low ord v R, low_suffix O v R hne hs, c.tail O⟩)
  rw [List.length_map, List.length_map, List.length_mergeSort] at this
  omega
theorem Bd.mono {n j k a b : Nat} (h : Bd ord D Dp n k a) (h1 : j ≤ k) (h2 : a ≤ b) : Bd ord D Dp n j b := fun P hP hw L hL hc => Nat.le_trans (h P (Nat.le_trans hP h1) hw L hL hc) h2
theorem bd_all (O : OrdC ord D Dp) : Bd ord D Dp 1 6 49 ∧ Bd ord D Dp 2 6 49 ∧ Bd ord D Dp 3 6 49 ∧ Bd ord D Dp 4 6 49 := by
  have b1 : ∀ k, k ≤ 6 → Bd ord D Dp 1 k (k + 1) := fun k hk => (bd_step O (k := k) (f := fun _ => 1) fun j _ => bd_0 j).mono (Nat.le_refl _) (by
    have : ∀ k ≤ 6, ((List.range (k + 1)).map fun _ => 1).sum ≤ k + 1 := by decide
    exact this k hk)
  have b2 : ∀ k, k ≤ 6 → Bd ord D Dp 2 k 28 := fun k hk => (bd_step O (k := k) (f := fun j => j + 1) fun j hj => b1 j (Nat.le_trans hj hk)).mono (Nat.le_refl _) (by
    have : ∀ k ≤ 6, ((List.range (k + 1)).map fun j => j + 1).sum ≤ 28 := by decide
    exact this k hk)
  have b4 : Bd ord D Dp 4 6 49 := (bd_step O (k := 6) (f := fun j => 2 * j + 1) fun j _ => bd_3 O j).mono (Nat.le_refl _) (by decide)
  exact ⟨(b1 6 (Nat.le_refl _)).mono (Nat.le_refl _) (by decide), (b2 6 (Nat.le_refl _)).mono (Nat.le_refl _) (by decide), (bd_3 O 6).mono (Nat.le_refl _) (by decide), b4⟩
theorem bd_few (O : OrdC ord D Dp) {n : Nat} (h1 : 1 ≤ n) (h4 : n ≤ 4) : Bd ord D Dp n 6 49 := by
  obtain ⟨b1, b2, b3, b4⟩ := bd_all O
  have : n = 1 ∨ n = 2 ∨ n = 3 ∨ n = 4 := by omega
  rcases this with rfl | rfl | rfl | rfl <;> assumption
theorem sum_one : ∀ k : Nat, ((List.range k).map fun _ => 1).sum = k
  | 0 => rfl
  | k + 1 => by
    rw [List.range_succ, List.map_append, List.sum_append, sum_one k]
    rfl
theorem bd_many (O : OrdC ord D Dp) {n : Nat} (h1 : 1 ≤ n) (h4 : n ≤ 4) : Bd ord D Dp n 60 10000 := by
  have b1 : ∀ k, Bd ord D Dp 1 k (k + 1) := fun k => (bd_step O (k := k) (f := fun _ => 1) fun j _ => bd_0 j).mono (Nat.le_refl _) (Nat.le_of_eq (sum_one (k + 1)))
  have : n = 1 ∨ n = 2 ∨ n = 3 ∨ n = 4 := by omega
  rcases this with rfl | rfl | rfl | rfl
  · exact (b1 60).mono (Nat.le_refl _) (by decide)
  · exact (bd_step O (k := 60) (f := fun j => j + 1) fun j _ => b1 j).mono (Nat.le_refl _) (by decide +kernel)
  · exact (bd_3 O 60).mono (Nat.le_refl _) (by decide)
  · exact (bd_step O (k := 60) (f := fun j => 2 * j + 1) fun j _ => bd_3 O j).mono (Nat.le_refl _) (by decide +kernel)
end
/-! ### both sides -/
theorem pw_noGt : ∀ {a b : Line}, a.length = b.length → pw leE a b = noGt a b
  | [], [], _ => rfl
  | v :: a, w :: b, h => by rw [noGt_cons, ← pw_noGt (a := a) (b := b) (by simpa using h)]; rfl
def geE (v w : Ent) : Bool := leE w v
theorem pw_geE : ∀ {a b : Line}, a.length = b.length → pw geE a b = noGt b a
  | [], [], _ => rfl
  | v :: a, w :: b, h => by rw [noGt_cons, ← pw_geE (a := a) (b := b) (by simpa using h)]; rfl
theorem ordA : OrdC leE (okE true) (okE false) := by
  refine ⟨leE_refl, leE_trans, leE_antisymm, leE_total, fun p y hp hy h => ?_⟩
  cases p with
  | none => cases hp
  | some j =>
    cases y with
    | none => simp [leE] at h
    | some i =>
      have h1 : i < j := by simpa [leE] using h
      have h2 : 0 ≤ i := by simpa [okE] using hy
      refine ⟨some (j - 1), by simp [okE]; omega, by simp [leE]; omega, fun v hv hp => ?_⟩
      cases v with
      | none => simp [leE] at hp
      | some k =>
        have : k < j := by simpa [leE] using hp
        simp [leE]
        omega
theorem ordB : OrdC geE (okE false) (okE true) := by
  refine ⟨leE_refl, fun h1 h2 => leE_trans h2 h1, fun h1 h2 => leE_antisymm h2 h1, fun v w => leE_total w v, fun p y hp hy h => ?_⟩
  cases p with
  | none => simp [geE, leE] at h
  | some j =>
    have hj : 0 ≤ j := by simpa [okE] using hp
    refine ⟨some (j + 1), by simp [okE]; omega, by simp [geE, leE]; omega, fun v hv hq => ?_⟩
    cases v with
    | none => cases hv
    | some k =>
      have : j < k := by simpa [geE, leE] using hq
      simp [geE, leE]
      omega
section
variable {n : Nat} {P found : List Line}
theorem corA (h : InvA n P found) (hP : ∀ p ∈ P, okL n false p) {y : Line} (hy : y ∈ found) : Cor leE (okE true) n P y := by
  have hyo := h.ok y hy
  refine ⟨hyo.1, fun v hv => List.all_eq_true.mp hyo.2 v hv, fun p hp => by rw [pw_noGt (by rw [(hP p hp).1, hyo.1])]; exact h.out y hy p hp, fun z h1 h2 h3 h4 => ?_⟩
  have hz : okL n true z := ⟨h1, List.all_eq_true.mpr h2⟩
  rw [pw_noGt (by rw [h1, hyo.1])] at h4
  obtain ⟨w, hw, hzw⟩ := h.all z hz fun p hp => by
    have := h3 p hp
    rwa [pw_noGt (by rw [(hP p hp).1, h1])] at this
  have hwo := h.ok w hw
  have := h.anti y hy w hw (noGt_trans (by rw [h1, hyo.1]) (by rw [h1, hwo.1]) h4 hzw)
  subst this
  exact noGt_antisymm (by rw [h1, hyo.1]) hzw h4
theorem corB (h : InvB n P found) (hP : ∀ p ∈ P, okL n true p) {y : Line} (hy : y ∈ found) : Cor geE (okE false) n P y := by
  have hyo := h.ok y hy
  refine ⟨hyo.1, fun v hv => List.all_eq_true.mp hyo.2 v hv, fun p hp => by rw [pw_geE (by rw [(hP p hp).1, hyo.1])]; exact h.out y hy p hp, fun z h1 h2 h3 h4 => ?_⟩
  have hz : okL n false z := ⟨h1, List.all_eq_true.mpr h2⟩
  rw [pw_geE (by rw [h1, hyo.1])] at h4
  obtain ⟨w, hw, hzw⟩ := h.all z hz fun p hp => by
    have := h3 p hp
    rwa [pw_geE (by rw [(hP p hp).1, h1])] at this
  have hwo := h.ok w hw
  have := h.anti w hw y hy (noGt_trans (by rw [h1, hwo.1]) (by rw [h1, hyo.1]) hzw h4)
  subst this
  exact noGt_antisymm (by rw [h1, hyo.1]) h4 hzw
theorem few_outA (h1 : 1 ≤ n) (h4 : n ≤ 4) {ls : List Line} (hl : ∀ l ∈ ls, okL n false l) (h6 : ls.length ≤ 6) : (outA n ls).length ≤ 49 :=
  bd_few ordA h1 h4 ls h6 (fun p hp => ⟨(hl p hp).1, fun v hv => List.all_eq_true.mp (hl p hp).2 v hv⟩) (outA n ls) (invA_out ls hl).nd fun y hy => corA (invA_out ls hl) hl hy
theorem few_outB (h1 : 1 ≤ n) (h4 : n ≤ 4) {ls : List Line} (hl : ∀ l ∈ ls, okL n true l) (h6 : ls.length ≤ 6) : (outB n ls).length ≤ 49 :=
  bd_few ordB h1 h4 ls h6 (fun p hp => ⟨(hl p hp).1, fun v hv => List.all_eq_true.mp (hl p hp).2 v hv⟩) (outB n ls) (invB_out ls hl).nd fun y hy => corB (invB_out ls hl) hl hy
theorem many_outA (h1 : 1 ≤ n) (h4 : n ≤ 4) {ls : List Line} (hl : ∀ l ∈ ls, okL n false l) (h6 : ls.length ≤ 60) : (outA n ls).length ≤ big :=
  Nat.le_trans (bd_many ordA h1 h4 ls h6 (fun p hp => ⟨(hl p hp).1, fun v hv => List.all_eq_true.mp (hl p hp).2 v hv⟩) (outA n ls) (invA_out ls hl).nd fun y hy => corA (invA_out ls hl) hl hy) (by decide)
theorem many_outB (h1 : 1 ≤ n) (h4 : n ≤ 4) {ls : List Line} (hl : ∀ l ∈ ls, okL n true l) (h6 : ls.length ≤ 60) : (outB n ls).length ≤ big :=
  Nat.le_trans (bd_many ordB h1 h4 ls h6 (fun p hp => ⟨(hl p hp).1, fun v hv => List.all_eq_true.mp (hl p hp).2 v hv⟩) (outB n ls) (invB_out ls hl).nd fun y hy => corB (invB_out ls hl) hl hy) (by decide)
end
end PV
end
section
set_option linter.all false
set_option Elab.async false
/-! PM4: there and back. -/
namespace PV
section
variable {n : Nat} {ls : List Line}
theorem okL_of {w : Bool} {x : Line} (h : ∀ l ∈ ls, okL n w l) (hx : x ∈ ls) : okL n w x := h x hx
theorem Wide.of {w : Bool} (h : ∀ l ∈ ls, okL n w l) : Wide n ls := fun l hl => (h l hl).1
theorem told_ok (hl : ∀ l ∈ ls, okL n false l) : ∀ t ∈ ordL (outA n ls), okL n true t := fun t ht => (invA_out ls hl).ok t (mem_ordL.mp ht)
theorem low_ok (hl : ∀ l ∈ ls, okL n true l) : ∀ t ∈ ordL (outB n ls), okL n false t := fun t ht => (invB_out ls hl).ok t (mem_ordL.mp ht)
/-- above a least one, or below one outside -/
theorem partA (hl : ∀ l ∈ ls, okL n false l) {x : Line} (hx : okL n false x) : ((lAmong ls).any fun l => noGt l x) = !(ordL (outA n ls)).any fun t => noGt x t := by
  have I := invA_out ls hl
  obtain ⟨g1, g2, _⟩ := lAmong_spec (Wide.of hl)
  cases q : (ordL (outA n ls)).any fun t => noGt x t with
  | true =>
    obtain ⟨t, ht, hxt⟩ := List.any_eq_true.mp q
    have ht := mem_ordL.mp ht
    rw [Bool.not_true]
    refine List.any_eq_false.mpr fun l hl2 h2 => ?_
    have hl3 := ((g1 l).mp hl2).1
    have := I.out t ht l hl3
    rw [noGt_trans (by rw [(hl l hl3).1, hx.1]) (by rw [hx.1, (I.ok t ht).1]) h2 hxt] at this
    cases this
  | false =>
    rw [Bool.not_false]
    have hn : ¬ OutP ls x := fun ho => by
      obtain ⟨y, hy, hxy⟩ := I.all x hx.wide ho
      exact (List.any_eq_false.mp q y (mem_ordL.mpr hy)) hxy
    have : ∃ l ∈ ls, noGt l x = true := by
      refine Classical.byContradiction fun h => hn fun p hp => ?_
      cases e : noGt p x with
      | false => rfl
      | true => exact absurd ⟨p, hp, e⟩ h
    obtain ⟨l, hl1, hl2⟩ := this
    obtain ⟨m, hm, hml⟩ := g2 l hl1
    have hm2 := ((g1 m).mp hm).1
    exact List.any_eq_true.mpr ⟨m, hm, noGt_trans (by rw [(hl m hm2).1, (hl l hl1).1]) (by rw [(hl l hl1).1, hx.1]) hml hl2⟩
theorem partB (hl : ∀ l ∈ ls, okL n true l) {x : Line} (hx : okL n false x) : ((ordL (outB n ls)).any fun l => noGt l x) = !(gAmong ls).any fun t => noGt x t := by
  have I := invB_out ls hl
  obtain ⟨g1, g2, _⟩ := gAmong_spec (Wide.of hl)
  cases q : (gAmong ls).any fun t => noGt x t with
  | true =>
    obtain ⟨t, ht, hxt⟩ := List.any_eq_true.mp q
    have ht := ((g1 t).mp ht).1
    rw [Bool.not_true]
    refine List.any_eq_false.mpr fun l hl2 h2 => ?_
    have hl3 := mem_ordL.mp hl2
    have := I.out l hl3 t ht
    rw [noGt_trans (by rw [(I.ok l hl3).1, hx.1]) (by rw [hx.1, (hl t ht).1]) h2 hxt] at this
    cases this
  | false =>
    rw [Bool.not_false]
    have hi : InP ls x := fun p hp => by
      cases e : noGt x p with
      | false => rfl
      | true =>
        obtain ⟨m, hm, hpm⟩ := g2 p hp
        have hm2 := ((g1 m).mp hm).1
        exact absurd (noGt_trans (by rw [hx.1, (hl p hp).1]) (by rw [(hl p hp).1, (hl m hm2).1]) e hpm) (List.any_eq_false.mp q m hm)
    obtain ⟨y, hy, hyx⟩ := I.all x hx hi
    exact List.any_eq_true.mpr ⟨y, mem_ordL.mpr hy, hyx⟩
/-- there and back -/
theorem dualA (hl : ∀ l ∈ ls, okL n false l) : ordL (outB n (ordL (outA n ls))) = lAmong ls := by
  have I := invA_out ls hl
  have J := invB_out (ordL (outA n ls)) (told_ok hl)
  obtain ⟨g1, g2, g3⟩ := lAmong_spec (Wide.of hl)
  have inP : ∀ l ∈ ls, InP (ordL (outA n ls)) l := fun l hl2 t ht => I.out t (mem_ordL.mp ht) l hl2
  have fwd : ∀ x, x ∈ outB n (ordL (outA n ls)) → x ∈ lAmong ls := fun x hx => by
    have hxo := J.ok x hx
    have p := partA hl hxo
    have : ((ordL (outA n ls)).any fun t => noGt x t) = false := List.any_eq_false.mpr fun t ht h => by
      have := J.out x hx t ht
      rw [h] at this
      cases this
    rw [this, Bool.not_false] at p
    obtain ⟨m, hm, hmx⟩ := List.any_eq_true.mp p
    have hm2 := ((g1 m).mp hm).1
    obtain ⟨y, hy, hym⟩ := J.all m (hl m hm2) (inP m hm2)
    have e := J.anti y hy x hx (noGt_trans (by rw [(J.ok y hy).1, (hl m hm2).1]) (by rw [(hl m hm2).1, hxo.1]) hym hmx)
    subst e
    rw [noGt_antisymm (by rw [(hl m hm2).1, hxo.1]) hym hmx]
    exact hm
  refine (asc_ordL _).ext g3 fun x => ⟨fun hx => fwd x (mem_ordL.mp hx), fun hx => mem_ordL.mpr ?_⟩
  have hx2 := ((g1 x).mp hx).1
  obtain ⟨y, hy, hyx⟩ := J.all x (hl x hx2) (inP x hx2)
  have := ((g1 x).mp hx).2 y ((g1 y).mp (fwd y hy)).1 hyx
  rw [← this]
  exact hy
theorem bound_of : ∀ l : Line, ∃ B : Int, 0 ≤ B ∧ ∀ j, some j ∈ l → j < B
  | [] => ⟨0, by omega, fun j h => nomatch h⟩
  | v :: l => by
    obtain ⟨B, h1, h2⟩ := bound_of l
    cases v with
    | none => exact ⟨B, h1, fun j h => h2 j (by simpa using h)⟩
    | some k =>
      refine ⟨max B (k + 1), by omega, fun j h => ?_⟩
      rcases List.mem_cons.mp h with e | h
      · cases e; omega
      · have := h2 j h; omega
theorem bound_all : ∀ ls : List Line, ∃ B : Int, 0 ≤ B ∧ ∀ l ∈ ls, ∀ j, some j ∈ l → j < B
  | [] => ⟨0, by omega, fun l h => nomatch h⟩
  | l :: ls => by
    obtain ⟨B, h1, h2⟩ := bound_all ls
    obtain ⟨C, h3, h4⟩ := bound_of l
    refine ⟨max B C, by omega, fun x hx j hj => ?_⟩
    rcases List.mem_cons.mp hx with e | hx
    · subst e; have := h4 j hj; omega
    · have := h2 x hx j hj; omega
/-- what is outside of what is outside of ideals lies below one -/
theorem below_of (hl : ∀ l ∈ ls, okL n true l) {y : Line} (hy : okL n true y) (ho : OutP (ordL (outB n ls)) y) : ∃ g ∈ ls, noGt y g = true := by
  have I := invB_out ls hl
  obtain ⟨B, hB, hb⟩ := bound_all ls
  refine Classical.byContradiction fun hn => ?_
  let x : Line := y.map fun v => some (v.getD B)
  have hx : okL n false x := ⟨by simp [x, hy.1], List.all_eq_true.mpr fun v hv => by
    obtain ⟨w, hw, rfl⟩ := List.mem_map.mp hv
    have := List.all_eq_true.mp hy.2 w hw
    cases w with
    | none => simpa [okE] using hB
    | some j => exact this⟩
  have xy : noGt x y = true := (noGt_get (by rw [hx.1, hy.1])).mpr fun i v w e1 e2 => by
    simp only [x, List.getElem?_map, e2, Option.map_some, Option.some.injEq] at e1
    subst e1
    cases w with
    | none => rfl
    | some j => simp [leE]
  have hi : InP ls x := fun p hp => by
    cases e : noGt x p with
    | false => rfl
    | true =>
      have hyp : noGt y p = false := by
        cases e2 : noGt y p with
        | false => rfl
        | true => exact absurd ⟨p, hp, e2⟩ hn
      obtain ⟨i, v, w, e1, e2, e3⟩ := noGt_not (by rw [hy.1, (hl p hp).1]) hyp
      have ex : x[i]? = some (some (v.getD B)) := by simp [x, e1]
      have := (noGt_get (by rw [hx.1, (hl p hp).1])).mp e i _ w ex e2
      cases v with
      | some a => rw [show (some a : Ent).getD B = a from rfl, e3] at this; cases this
      | none =>
        cases w with
        | none => cases e3
        | some j =>
          have h1 := hb p hp j (List.mem_of_getElem? e2)
          have h2 : B ≤ j := by simpa [leE] using this
          omega
  obtain ⟨r, hr, hrx⟩ := I.all x hx hi
  have := ho r (mem_ordL.mpr hr)
  rw [noGt_trans (by rw [(I.ok r hr).1, hx.1]) (by rw [hx.1, hy.1]) hrx xy] at this
  cases this
theorem dualB (hl : ∀ l ∈ ls, okL n true l) : ordL (outA n (ordL (outB n ls))) = gAmong ls := by
  have I := invB_out ls hl
  have J := invA_out (ordL (outB n ls)) (low_ok hl)
  obtain ⟨g1, g2, g3⟩ := gAmong_spec (Wide.of hl)
  have outP : ∀ l ∈ ls, OutP (ordL (outB n ls)) l := fun l hl2 t ht => I.out t (mem_ordL.mp ht) l hl2
  have fwd : ∀ x, x ∈ outA n (ordL (outB n ls)) → x ∈ gAmong ls := fun x hx => by
    have hxo := J.ok x hx
    obtain ⟨g, hg, hxg⟩ := below_of hl hxo (J.out x hx)
    obtain ⟨m, hm, hgm⟩ := g2 g hg
    have hm2 := ((g1 m).mp hm).1
    have hxm := noGt_trans (by rw [hxo.1, (hl g hg).1]) (by rw [(hl g hg).1, (hl m hm2).1]) hxg hgm
    obtain ⟨y, hy, hmy⟩ := J.all m (hl m hm2) (outP m hm2)
    have e := J.anti x hx y hy (noGt_trans (by rw [hxo.1, (hl m hm2).1]) (by rw [(hl m hm2).1, (J.ok y hy).1]) hxm hmy)
    subst e
    rw [noGt_antisymm (by rw [(hl m hm2).1, hxo.1]) hxm hmy]
    exact hm
  refine (asc_ordL _).ext g3 fun x => ⟨fun hx => fwd x (mem_ordL.mp hx), fun hx => mem_ordL.mpr ?_⟩
  have hx2 := ((g1 x).mp hx).1
  obtain ⟨y, hy, hxy⟩ := J.all x (hl x hx2) (outP x hx2)
  have := ((g1 x).mp hx).2 y ((g1 y).mp (fwd y hy)).1 hxy
  rw [← this]
  exact hy
/-- what the law itself calls least, greatest -/
def lLaw (ls : List Line) : List Line := (ordL ls).filter fun l => ((ordL ls).filter fun o => decide (o ≠ l) && noGt o l).isEmpty
def gLaw (ls : List Line) : List Line := (ordL ls).filter fun l => ((ordL ls).filter fun o => decide (o ≠ l) && noGt l o).isEmpty
theorem lLaw_eq (hw : Wide n ls) : lLaw ls = lAmong ls := by
  obtain ⟨g1, g2, g3⟩ := lAmong_spec hw
  refine Asc.ext ⟨(asc_ordL ls).1.filter _, (asc_ordL ls).2.filter _⟩ g3 fun x => ?_
  unfold lLaw
  rw [List.mem_filter, g1, mem_ordL, List.isEmpty_iff, List.filter_eq_nil_iff]
  constructor
  · rintro ⟨h1, h2⟩
    refine ⟨h1, fun y hy h3 => ?_⟩
    have := h2 y (mem_ordL.mpr hy)
    simp only [Bool.and_eq_true, decide_eq_true_eq, not_and] at this
    exact Classical.byContradiction fun e => this e h3
  · rintro ⟨h1, h2⟩
    refine ⟨h1, fun y hy => ?_⟩
    simp only [Bool.and_eq_true, decide_eq_true_eq, not_and]
    exact fun e h3 => e (h2 y (mem_ordL.mp hy) h3)
theorem gLaw_eq (hw : Wide n ls) : gLaw ls = gAmong ls := by
  obtain ⟨g1, g2, g3⟩ := gAmong_spec hw
  refine Asc.ext ⟨(asc_ordL ls).1.filter _, (asc_ordL ls).2.filter _⟩ g3 fun x => ?_
  unfold gLaw
  rw [List.mem_filter, g1, mem_ordL, List.isEmpty_iff, List.filter_eq_nil_iff]
  constructor
  · rintro ⟨h1, h2⟩
    refine ⟨h1, fun y hy h3 => ?_⟩
    have := h2 y (mem_ordL.mpr hy)
    simp only [Bool.and_eq_true, decide_eq_true_eq, not_and] at this
    exact Classical.byContradiction fun e => this e h3
  · rintro ⟨h1, h2⟩
    refine ⟨h1, fun y hy => ?_⟩
    simp only [Bool.and_eq_true, decide_eq_true_eq, not_and]
    exact fun e h3 => e (h2 y (mem_ordL.mp hy) h3)
/-- least ones of a row of least ones -/
theorem lAmong_anti (hw : Wide n ls) (h : ∀ y ∈ ls, ∀ z ∈ ls, noGt y z = true → y = z) (ha : Asc ls) : lAmong ls = ls := by
  obtain ⟨g1, _, g3⟩ := lAmong_spec hw
  exact g3.ext ha fun x => ⟨fun hx => ((g1 x).mp hx).1, fun hx => (g1 x).mpr ⟨hx, fun y hy q => h y hy x hx q⟩⟩
theorem gAmong_anti (hw : Wide n ls) (h : ∀ y ∈ ls, ∀ z ∈ ls, noGt y z = true → y = z) (ha : Asc ls) : gAmong ls = ls := by
  obtain ⟨g1, _, g3⟩ := gAmong_spec hw
  exact g3.ext ha fun x => ⟨fun hx => ((g1 x).mp hx).1, fun hx => (g1 x).mpr ⟨hx, fun y hy q => (h x hx y hy q).symm⟩⟩
end
end PV
end
section
set_option linter.all false
set_option Elab.async false
/-! PL11: the laws' own words on lines. -/
namespace PV
noncomputable def belowB : Stm := (sSeq (sRet (eOp2 fEq (eLc (itZip2 (eVar 0) (eVar 1)) (.tup [(.slot 3), (.slot 4)]) [2, 3, 4] (PV.tAnd (tEx (eOp2 fIsn (eVar 4) (eCon .non))) (PV.tOr (tEx (eOp2 fIs (eVar 3) (eCon .non))) (tEx (eOp2 fGt (eVar 3) (eVar 4))))) (eCon (.int 1))) (eLst esNil))) sNil)
noncomputable def belowF : FnD := ⟨2, 5, belowB, false⟩
noncomputable def keyB : Stm := (sSeq (sRet (eLc (itSeq (eVar 0)) (.slot 2) [1, 2] PV.tYes (eTup (esCons (eFn bInt (esCons (eOp2 fIs (eVar 2) (eCon .non)) esNil)) (esCons (eIf (tEx (eOp2 fIs (eVar 2) (eCon .non))) (eCon (.int 0)) (eVar 2)) esNil))))) sNil)
noncomputable def keyF : FnD := ⟨1, 3, keyB, false⟩
noncomputable def sortedB : Stm := (sSeq (sRet (eSortK 26 (eVar 0))) sNil)
noncomputable def sortedF : FnD := ⟨1, 1, sortedB, false⟩
noncomputable def leastB : Stm := (sSeq (sSet 1 (eCall 27 (esDef (esCons (eFn bListD (esCons (eFn bDict (esCons (eLc (itSeq (eVar 0)) (.slot 3) [2, 3] PV.tYes (eTup (esCons (eVar 3) (esCons (eCon (.bl true)) esNil)))) esNil)) esNil)) esNil) []))) (sSeq (sRet (eLc (itSeq (eVar 1)) (.slot 3) [2, 3] (tEx (eOp2 fEq (eLc (itSeq (eVar 1)) (.slot 4) [2, 4] (PV.tAnd (tEx (eOp2 fNe (eVar 4) (eVar 3))) (tEx (eCall 25 (esDef (esCons (eVar 4) (esCons (eVar 3) esNil)) [])))) (eVar 4)) (eLst esNil))) (eVar 3))) sNil))
noncomputable def leastF : FnD := ⟨1, 5, leastB, false⟩
noncomputable def greatestB : Stm := (sSeq (sSet 1 (eCall 27 (esDef (esCons (eFn bListD (esCons (eFn bDict (esCons (eLc (itSeq (eVar 0)) (.slot 3) [2, 3] PV.tYes (eTup (esCons (eVar 3) (esCons (eCon (.bl true)) esNil)))) esNil)) esNil)) esNil) []))) (sSeq (sRet (eLc (itSeq (eVar 1)) (.slot 3) [2, 3] (tEx (eOp2 fEq (eLc (itSeq (eVar 1)) (.slot 4) [2, 4] (PV.tAnd (tEx (eOp2 fNe (eVar 4) (eVar 3))) (tEx (eCall 25 (esDef (esCons (eVar 3) (esCons (eVar 4) esNil)) [])))) (eVar 4)) (eLst esNil))) (eVar 3))) sNil))
noncomputable def greatestF : FnD := ⟨1, 5, greatestB, false⟩
structure OwnT (T : Nat → Option FnD) : Prop where
  t25 : T 25 = some belowF
  t26 : T 26 = some keyF
  t27 : T 27 = some sortedF
  t28 : T 28 = some leastF
  t29 : T 29 = some greatestF
theorem eqv_nil (l : List A) : A.eqv (.lst l) (.lst []) = l.isEmpty := by cases l <;> rfl
theorem fEq_nil {l : List A} (h : flat (.lst l) = true) : fEq (.lst l) (.lst []) = some (.bl l.isEmpty) := by
  unfold fEq
  rw [h, eqv_nil]
  rfl
theorem fNe_nil {l : List A} (h : flat (.lst l) = true) : fNe (.lst l) (.lst []) = some (.bl (!l.isEmpty)) := by
  unfold fNe
  rw [h, eqv_nil]
  rfl
theorem fNe_encL (a b : Line) : fNe (encL a) (encL b) = some (.bl (decide (a ≠ b))) := by
  unfold fNe
  rw [dat_flat (dat_encL a) (by decide), dat_flat (dat_encL b) (by decide), eqv_encL]
  by_cases h : a = b <;> simp [h]
theorem eqvL_encLs : ∀ a b : List Line, A.eqvL (a.map encL) (b.map encL) = decide (a = b)
  | [], [] => by simp [A.eqvL]
  | [], _ :: _ => by simp [A.eqvL]
  | _ :: _, [] => by simp [A.eqvL]
  | v :: a, w :: b => by
    simp only [List.map_cons, A.eqvL, eqv_encL, eqvL_encLs a b, List.cons.injEq]
    by_cases h : v = w <;> by_cases h2 : a = b <;> simp [h, h2]
theorem fEq_encLs (a b : List Line) : fEq (encLs a) (encLs b) = some (.bl (decide (a = b))) := by
  unfold fEq
  rw [dat_flat (dat_encLs a) (by decide), dat_flat (dat_encLs b) (by decide)]
  show some (A.bl (A.eqvL (a.map encL) (b.map encL))) = _
  rw [eqvL_encLs]
theorem fNe_encLs (a b : List Line) : fNe (encLs a) (encLs b) = some (.bl (decide (a ≠ b))) := by
  unfold fNe
  rw [dat_flat (dat_encLs a) (by decide), dat_flat (dat_encLs b) (by decide)]
  show some (A.bl (!A.eqvL (a.map encL) (b.map encL))) = _
  rw [eqvL_encLs]
  by_cases h : a = b <;> simp [h]
theorem fNe_tups (a b : List Line) : fNe (.tup (a.map encL)) (.tup (b.map encL)) = some (.bl (decide (a ≠ b))) := by
  unfold fNe
  rw [flat_tup (n := 1) (fun x hx => by obtain ⟨v, _, rfl⟩ := List.mem_map.mp hx; exact dat_encL v) (by decide), flat_tup (n := 1) (fun x hx => by obtain ⟨v, _, rfl⟩ := List.mem_map.mp hx; exact dat_encL v) (by decide)]
  show some (A.bl (!A.eqvL (a.map encL) (b.map encL))) = _
  rw [eqvL_encLs]
  by_cases h : a = b <;> simp [h]
theorem fEq_tups (a b : List Line) : fEq (.tup (a.map encL)) (.tup (b.map encL)) = some (.bl (decide (a = b))) := by
  unfold fEq
  rw [flat_tup (n := 1) (fun x hx => by obtain ⟨v, _, rfl⟩ := List.mem_map.mp hx; exact dat_encL v) (by decide), flat_tup (n := 1) (fun x hx => by obtain ⟨v, _, rfl⟩ := List.mem_map.mp hx; exact dat_encL v) (by decide)]
  show some (A.bl (A.eqvL (a.map encL) (b.map encL))) = _
  rw [eqvL_encLs]
section
variable {T : Nat → Option FnD} {d : Nat}
theorem below_ok (h : OwnT T) (a b : Line) (ha : a.length ≤ Sz) (st : Sto) : run T (d + 1) 25 [.v (encL a), .v (encL b)] st = .ok (.v (.bl (noGt a b))) st := by
  refine run_rt h.t25 rfl ?_ rfl
  have hz : ((a.zip b).map fun p => A.tup [encE p.1, encE p.2]).length ≤ Sz := by rw [List.length_map]; exact Nat.le_trans (zip_len a b) ha
  have hit : itZip2 (eVar 0) (eVar 1) (run T d) [some (.v (encL a)), some (.v (encL b)), none, none, none] st = .ok ((a.zip b).map fun p => A.tup [encE p.1, encE p.2], fun _ => true && true) st := by
    simp only [itZip2_eq, eVar_eq, List.getElem?_cons_zero, List.getElem?_cons_succ, bind_ok, zips2, encL, srcq_tup, zip2_map, itms_some _ hz]
  have k := eLc_map (it := itZip2 (eVar 0) (eVar 1)) (tg := .tup [.slot 3, .slot 4]) (own := [2, 3, 4]) (t := PV.tAnd (tEx (eOp2 fIsn (eVar 4) (eCon .non))) (PV.tOr (tEx (eOp2 fIs (eVar 3) (eCon .non))) (tEx (eOp2 fGt (eVar 3) (eVar 4))))) (x := eCon (.int 1)) (O := run T d) (env := [some (.v (encL a)), some (.v (encL b)), none, none, none]) (st := st) (a.zip b) _ (fun p => !leE p.1 p.2) (fun _ => .int 1) hit rfl (by
    rintro ⟨v, w⟩ _
    refine ⟨_, rfl, ?_, fun _ => rfl⟩
    cases w with
    | none => cases v <;> simp [encE, leE, A.same, wipe]
    | some j =>
      cases v with
      | none => simp [encE, leE, A.same, wipe]
      | some i =>
        have : decide (j < i) = !decide (i ≤ j) := by by_cases q : i ≤ j <;> simp [q] <;> omega
        simp [encE, leE, A.same, wipe, this])
  show belowB (run T d) [some (.v (encL a)), some (.v (encL b)), none, none, none] st = _
  unfold belowB
  rw [sSeq_eq, sRet_eq, eOp2_eq, k]
  have hf : flat (.lst ((List.filter (fun p : Ent × Ent => !leE p.1 p.2) (a.zip b)).map fun _ => A.int 1)) = true := flat_lst (n := 0) (fun x hx => by obtain ⟨_, _, rfl⟩ := List.mem_map.mp hx; exact dat_int _ _) (by decide)
  simp only [bind_ok, eLst_eq, esNil_eq, disp0, op2_v, fEq_nil hf, ofV_some, to_ok, seq_rt]
  congr 3
  unfold noGt
  rw [List.isEmpty_map]
  rw [Bool.eq_iff_iff]
  simp [List.isEmpty_iff]
def ordE2 : Ent → A
  | none => .tup [.int 1, .int 0]
  | some i => .tup [.int 0, .int i]
def ordK2 (a : Line) : A := .lst (a.map ordE2)
theorem toks_K2 : ∀ a : Line, (ordK2 a).toks = (ordK a).toks := by
  have h : ∀ a : Line, A.toksL (a.map ordE2) = A.toksL (a.map ordE) := by
    intro a
    induction a with
    | nil => rfl
    | cons v a ih =>
      have : (ordE2 v).toks = (ordE v).toks := by cases v <;> rfl
      simp only [List.map_cons, A.toksL, this, ih]
  exact fun a => h a
theorem lt_ordK2 (a b : Line) : A.lt (ordK2 a) (ordK2 b) = ltL a b := by
  rw [← lt_ordK]
  unfold A.lt
  rw [toks_K2, toks_K2]
theorem alike_ordK2 : ∀ a b : Line, A.alike (ordK2 a) (ordK2 b) = true := by
  have h : ∀ a b : Line, A.alikeL (a.map ordE2) (b.map ordE2) = true := by
    intro a
    induction a with
    | nil => intro b; cases b <;> rfl
    | cons v a ih =>
      intro b
      cases b with
      | nil => rfl
      | cons w b =>
        have : A.alike (ordE2 v) (ordE2 w) = true := by cases v <;> cases w <;> rfl
        simp [A.alikeL, this, ih b]
  exact fun a b => h a b
theorem dat_ordK2 (a : Line) : dat 2 (ordK2 a) := dat_lst (n := 1) fun x hx => by
  obtain ⟨v, _, rfl⟩ := List.mem_map.mp hx
  cases v <;> exact dat_tup (n := 0) fun y hy => by
    simp at hy
    rcases hy with rfl | rfl <;> exact dat_int _ _
theorem key_ok (h : OwnT T) (a : Line) (ha : a.length ≤ Sz) (st : Sto) : run T (d + 1) 26 [.v (encL a)] st = .ok (.v (ordK2 a)) st := by
  refine run_rt h.t26 rfl ?_ rfl
  have k := eLc_yes (it := itSeq (eVar 0)) (tg := .slot 2) (own := [1, 2]) (x := eTup (esCons (eFn bInt (esCons (eOp2 fIs (eVar 2) (eCon .non)) esNil)) (esCons (eIf (tEx (eOp2 fIs (eVar 2) (eCon .non))) (eCon (.int 0)) (eVar 2)) esNil))) (O := run T d) (env := [some (.v (encL a)), none, none]) (st := st) a encE ordE2 (itSeq_encL rfl ha) rfl (by
    intro v _
    refine ⟨_, rfl, ?_⟩
    cases v <;> simp [encE, ordE2, A.same, wipe])
  show keyB (run T d) [some (.v (encL a)), none, none] st = _
  unfold keyB
  rw [sSeq_eq, sRet_eq, k]
  rfl
theorem sorted_ok (h : OwnT T) {a : A} {ls : List Line} (ha : IsLs a ls) (hw : ∀ l ∈ ls, l.length ≤ 1000) (st : Sto) : run T (d + 2) 27 [.v a] st = .ok (.v (encLs (ls.mergeSort leL))) st := by
  refine run_rt h.t27 rfl ?_ rfl
  show sortedB (run T (d + 1)) [some (.v a)] st = _
  unfold sortedB
  have hc : collA a = some (ls.map encL) := by rcases ha with rfl | rfl <;> rfl
  rw [sSeq_eq, sRet_eq]
  unfold eSortK
  simp only [eVar_eq, List.getElem?_cons_zero, bind_ok, vw_v, Option.bind_some, hc, of_some]
  rw [keysGo_ok ordK2 ls st fun l hl st => key_ok h l (Nat.le_trans (hw l hl) (by decide)) st]
  simp only [quiet_ok, bind_ok]
  unfold sortK
  have hs : sortBy (ls.map ordK2) (ls.map encL) = (ls.mergeSort leL).map encL := by
    unfold sortBy
    rw [show (ls.map ordK2).zip (ls.map encL) = ls.map fun l => (ordK2 l, encL l) by rw [List.zip_map']]
    rw [← List.map_mergeSort (r := leL) (s := fun p q : A × A => !A.lt q.1 p.1) (f := fun l => (ordK2 l, encL l)) fun a _ b _ => by rw [lt_ordK2]; rfl, List.map_map]
    rfl
  rw [if_pos (by
    rw [flat_lst (n := 2) (fun x hx => by obtain ⟨l, _, rfl⟩ := List.mem_map.mp hx; exact dat_ordK2 l) (by decide)]
    unfold sortable
    simp only [Bool.true_and, Bool.and_eq_true, Bool.or_eq_true, List.all_map, List.all_eq_true, Function.comp]
    exact ⟨fun a _ b _ => alike_ordK2 a b, .inr fun a _ => rfl⟩), hs]
  rfl
theorem pairs_yes (ls : List Line) : pairsA (ls.map fun l => .tup [encL l, .bl true]) = some (ls.map yes) := by
  induction ls with
  | nil => rfl
  | cons l ls ih =>
    rw [List.map_cons, pairsA, ih]
    simp only
    rw [if_pos (tupKey_encL l)]
    rfl
theorem dPuts_yes : ∀ (ls acc : List Line), dPuts (acc.map yes) (ls.map yes) = (ls.foldl addL acc).map yes
  | [], acc => rfl
  | l :: ls, acc => by
    have := dPuts_yes ls (addL acc l)
    unfold dPuts at this ⊢
    rw [List.map_cons, List.foldl_cons]
    show List.foldl _ (dPut (acc.map yes) (encL l) (.bl true)) _ = _
    rw [dPut_addL, this]
    rfl
theorem bDict_yes (ls : List Line) : bDict [.lst (ls.map fun l => .tup [encL l, .bl true])] = some (.dct ((dedupL ls).map yes)) := by
  show (pairsA _).map _ = _
  rw [pairs_yes]
  show some (A.dct (dPuts [] (ls.map yes))) = _
  have := dPuts_yes ls []
  rw [List.map_nil] at this
  rw [this]
  rfl
theorem unlike_ok (h : OwnT T) {e : Env} {a : A} {ls : List Line} (ha : IsLs a ls) (hl : ls.length ≤ Sz) (hw : ∀ l ∈ ls, l.length ≤ 1000) (h0 : e[0]? = some (some (.v a))) (h3 : 3 < e.length) (h0' : (wipe e [2, 3]).length = e.length) (st : Sto) :
    eCall 27 (esDef (esCons (eFn bListD (esCons (eFn bDict (esCons (eLc (itSeq (eVar 0)) (.slot 3) [2, 3] PV.tYes (eTup (esCons (eVar 3) (esCons (eCon (.bl true)) esNil)))) esNil)) esNil)) esNil) []) (run T (d + 2)) e st = .ok (.v (encLs (ordL ls))) st := by
  have k := eLc_yes (it := itSeq (eVar 0)) (tg := .slot 3) (own := [2, 3]) (x := eTup (esCons (eVar 3) (esCons (eCon (.bl true)) esNil))) (O := run T (d + 2)) (env := e) (st := st) ls encL (fun l => .tup [encL l, .bl true]) (itSeq_ls h0 ha hl) rfl (by
    intro l _
    refine ⟨_, rfl, ?_⟩
    simp only [eTup_eq, esCons_eq, eVar_eq, List.getElem?_set_self (show 3 < (wipe e [2, 3]).length by rw [h0']; exact h3), bind_ok, eCon_eq, esNil_eq, disp2])
  have k2 := sorted_ok (d := d) h (a := .lst ((dedupL ls).map encL)) (ls := dedupL ls) (.inl rfl) (fun l hl => hw l (mem_dedupL.mp hl)) st
  simp only [eCall_eq, esDef_eq, esCons_eq, eFn_eq]
  rw [k]
  have hl2 : bListD [.dct ((dedupL ls).map yes)] = some (.lst ((dedupL ls).map encL)) := by
    show some (A.lst (((dedupL ls).map yes).map (·.1))) = _
    rw [List.map_map]
    rfl
  simp only [bind_ok, esNil_eq, opL_1, bDict_yes, ofV_some, hl2, List.map_nil, List.append_nil]
  rw [k2]
  rfl
theorem least_ok (h : OwnT T) {a : A} {ls : List Line} (ha : IsLs a ls) (hl : ls.length ≤ Sz) (hw : ∀ l ∈ ls, l.length ≤ 1000) (st : Sto) : run T (d + 3) 28 [.v a] st = .ok (.v (encLs (lLaw ls))) st := by
  refine run_rt h.t28 rfl ?_ rfl
  show leastB (run T (d + 2)) [some (.v a), none, none, none, none] st = _
  unfold leastB
  have k1 := unlike_ok (d := d) h (e := [some (.v a), none, none, none, none]) ha hl hw rfl (by simp) (by simp [wipe]) st
  have hlo : (ordL ls).length ≤ Sz := Nat.le_trans (len_ordL ls) hl
  rw [sSeq_eq, sSet_eq, k1]
  simp only [to_ok, List.set, seq_nx]
  rw [sSeq_eq, sRet_eq]
  have k2 := eLc_map (it := itSeq (eVar 1)) (tg := .slot 3) (own := [2, 3]) (t := tEx (eOp2 fEq (eLc (itSeq (eVar 1)) (.slot 4) [2, 4] (PV.tAnd (tEx (eOp2 fNe (eVar 4) (eVar 3))) (tEx (eCall 25 (esDef (esCons (eVar 4) (esCons (eVar 3) esNil)) [])))) (eVar 4)) (eLst esNil))) (x := eVar 3) (O := run T (d + 2)) (env := [some (.v a), some (.v (encLs (ordL ls))), none, none, none]) (st := st) (ordL ls) encL (fun l => ((ordL ls).filter fun o => decide (o ≠ l) && noGt o l).isEmpty) encL (itSeq_lst rfl (by simpa using hlo)) rfl (by
    intro l hl2
    refine ⟨_, rfl, ?_, fun _ => rfl⟩
    have k3 := eLc_map (it := itSeq (eVar 1)) (tg := .slot 4) (own := [2, 4]) (t := PV.tAnd (tEx (eOp2 fNe (eVar 4) (eVar 3))) (tEx (eCall 25 (esDef (esCons (eVar 4) (esCons (eVar 3) esNil)) [])))) (x := eVar 4) (O := run T (d + 2)) (env := [some (.v a), some (.v (encLs (ordL ls))), none, some (.v (encL l)), none]) (st := st) (ordL ls) encL (fun o => decide (o ≠ l) && noGt o l) encL (itSeq_lst rfl (by simpa using hlo)) rfl (by
      intro o ho
      refine ⟨_, rfl, ?_, fun _ => rfl⟩
      have e := below_ok (d := d + 1) h o l (Nat.le_trans (hw o (mem_ordL.mp ho)) (by decide)) st
      simp [wipe, fNe_encL]
      by_cases q : o = l
      · simp [q]
      · simp only [q, if_false, not_false_eq_true, if_true]
        rw [e]
        simp)
    simp only [tEx_eq, eOp2_eq, wipe, List.foldr, List.set]
    rw [k3]
    have hf : flat (.lst (((ordL ls).filter fun o => decide (o ≠ l) && noGt o l).map encL)) = true := flat_lst (n := 1) (fun x hx => by obtain ⟨v, _, rfl⟩ := List.mem_map.mp hx; exact dat_encL v) (by decide)
    simp only [bind_ok, eLst_eq, esNil_eq, disp0, op2_v, fEq_nil hf, ofV_some, truthW_bl, List.isEmpty_map])
  rw [k2]
  rfl
theorem greatest_ok (h : OwnT T) {a : A} {ls : List Line} (ha : IsLs a ls) (hl : ls.length ≤ Sz) (hw : ∀ l ∈ ls, l.length ≤ 1000) (st : Sto) : run T (d + 3) 29 [.v a] st = .ok (.v (encLs (gLaw ls))) st := by
  refine run_rt h.t29 rfl ?_ rfl
  show greatestB (run T (d + 2)) [some (.v a), none, none, none, none] st = _
  unfold greatestB
  have k1 := unlike_ok (d := d) h (e := [some (.v a), none, none, none, none]) ha hl hw rfl (by simp) (by simp [wipe]) st
  have hlo : (ordL ls).length ≤ Sz := Nat.le_trans (len_ordL ls) hl
  rw [sSeq_eq, sSet_eq, k1]
  simp only [to_ok, List.set, seq_nx]
  rw [sSeq_eq, sRet_eq]
  have k2 := eLc_map (it := itSeq (eVar 1)) (tg := .slot 3) (own := [2, 3]) (t := tEx (eOp2 fEq (eLc (itSeq (eVar 1)) (.slot 4) [2, 4] (PV.tAnd (tEx (eOp2 fNe (eVar 4) (eVar 3))) (tEx (eCall 25 (esDef (esCons (eVar 3) (esCons (eVar 4) esNil)) [])))) (eVar 4)) (eLst esNil))) (x := eVar 3) (O := run T (d + 2)) (env := [some (.v a), some (.v (encLs (ordL ls))), none, none, none]) (st := st) (ordL ls) encL (fun l => ((ordL ls).filter fun o => decide (o ≠ l) && noGt l o).isEmpty) encL (itSeq_lst rfl (by simpa using hlo)) rfl (by
    intro l hl2
    refine ⟨_, rfl, ?_, fun _ => rfl⟩
    have k3 := eLc_map (it := itSeq (eVar 1)) (tg := .slot 4) (own := [2, 4]) (t := PV.tAnd (tEx (eOp2 fNe (eVar 4) (eVar 3))) (tEx (eCall 25 (esDef (esCons (eVar 3) (esCons (eVar 4) esNil)) [])))) (x := eVar 4) (O := run T (d + 2)) (env := [some (.v a), some (.v (encLs (ordL ls))), none, some (.v (encL l)), none]) (st := st) (ordL ls) encL (fun o => decide (o ≠ l) && noGt l o) encL (itSeq_lst rfl (by simpa using hlo)) rfl (by
      intro o ho
      refine ⟨_, rfl, ?_, fun _ => rfl⟩
      have e := below_ok (d := d + 1) h l o (Nat.le_trans (hw l (mem_ordL.mp hl2)) (by decide)) st
      simp [wipe, fNe_encL]
      by_cases q : o = l
      · simp [q]
      · simp only [q, if_false, not_false_eq_true, if_true]
        rw [e]
        simp)
    simp only [tEx_eq, eOp2_eq, wipe, List.foldr, List.set]
    rw [k3]
    have hf : flat (.lst (((ordL ls).filter fun o => decide (o ≠ l) && noGt l o).map encL)) = true := flat_lst (n := 1) (fun x hx => by obtain ⟨v, _, rfl⟩ := List.mem_map.mp hx; exact dat_encL v) (by decide)
    simp only [bind_ok, eLst_eq, esNil_eq, disp0, op2_v, fEq_nil hf, ofV_some, truthW_bl, List.isEmpty_map])
  rw [k2]
  rfl
end
end PV
end
section
set_option linter.all false
set_option Elab.async false
set_option maxRecDepth 100000
/-! LK31: the law of what lies outside of lines. -/
namespace PV
theorem sz60 {n : Nat} (h : n ≤ 60) : n ≤ Sz := Nat.le_trans h (by decide)
theorem sz60' {n : Nat} (h : n ≤ 62) : n ≤ Sz := Nat.le_trans h (by decide)
theorem leave_v' {n : Nat} {st st' : Sto} {a : A} (hn : st.length = n) (h : plainSto st = true) : leave n (.v a) (st ++ st') = .ok (.v a) st := by
  subst hn
  exact leave_v h
theorem mem_insI_L {k x : Int} : ∀ {l : List Int}, x ∈ insI k l ↔ x = k ∨ x ∈ l
  | [] => by simp [insI]
  | j :: l => by
    unfold insI
    split
    · simp
    · split
      · rename_i e; subst e; simp
      · rw [List.mem_cons, mem_insI_L (l := l), List.mem_cons]
        constructor
        · rintro (h | h | h) <;> simp [h]
        · rintro (h | h | h) <;> simp [h]
theorem mem_setA_L {x : Int} : ∀ {l : List Int}, x ∈ setA l ↔ x ∈ l
  | [] => by simp [setA]
  | k :: l => by rw [setA, mem_insI_L, mem_setA_L (l := l), List.mem_cons]
theorem len_insI (k : Int) : ∀ l : List Int, (insI k l).length ≤ l.length + 1
  | [] => by simp [insI]
  | j :: l => by
    unfold insI
    split
    · simp
    · split
      · simp
      · have := len_insI k l
        simp
        omega
theorem len_setA : ∀ l : List Int, (setA l).length ≤ l.length
  | [] => by simp [setA]
  | k :: l => by
    have := len_setA l
    have := len_insI k (setA l)
    rw [setA, List.length_cons]
    omega
theorem intsA_map : ∀ l : List Int, intsA (l.map A.int) = some l
  | [] => rfl
  | k :: l => by simp [intsA, intsA_map l]
def encI (r : List Int) : A := .lst (r.map .int)
/-- a row of what may be drawn -/
def RowOk (r : List Int) : Prop := r ≠ [] ∧ (∀ x ∈ r, 0 ≤ x) ∧ r.length ≤ 62
theorem sortSet_ok {ns : List Int} (hn : ∀ x ∈ ns, 0 ≤ x) (hl : ns.length ≤ 61) : ∃ r, fSortSet (.lst ((0 :: ns).map .int)) = some (encI r) ∧ RowOk r := by
  refine ⟨setA (0 :: ns), ?_, fun e => ?_, fun x hx => ?_, ?_⟩
  · show ((intsA ((0 :: ns).map A.int)).bind fun ns => if ns.length < 64 then some (A.lst ((setA ns).map .int)) else none) = _
    rw [intsA_map, Option.bind_some, if_pos (by rw [List.length_cons]; omega)]
    rfl
  · have : (0 : Int) ∈ setA (0 :: ns) := mem_setA_L.mpr List.mem_cons_self
    rw [e] at this
    cases this
  · rcases List.mem_cons.mp (mem_setA_L.mp hx) with e | h
    · omega
    · exact hn x h
  · have := len_setA (0 :: ns)
    rw [List.length_cons] at this
    omega
theorem penR.get {k : Nat} {tl st : Sto} {c : Cell} (h : penR k (tl ++ [c]) st) : st[tl.length + 1]? = some c := by
  obtain ⟨C, a, r, rfl, _⟩ := h
  simp
theorem penR.set {k : Nat} {tl st : Sto} {c c' : Cell} (h : penR k (tl ++ [c]) st) : penR k (tl ++ [c']) (st.set (tl.length + 1) c') := by
  obtain ⟨C, a, r, rfl, q⟩ := h
  exact ⟨C, a, r, by simp, q⟩
namespace K31
section
variable {T : Nat → Option FnD} {d : Nat} {c1 c2 c3 c4 : Int}
/-- the entries of lines at one place -/
theorem ix_line {n : Nat} {w : Bool} {l : Line} (h : okL n w l) {k : Nat} (hk : k < n) : ∃ v, l[k]? = some v ∧ okE w v = true ∧ fIx (encL l) (.int k) = some (encE v) := by
  obtain ⟨v, e⟩ := exists_get (l := l) (i := k) (by rw [h.1]; exact hk)
  exact ⟨v, e, h.get e, getI_nat (by rw [List.getElem?_map, e]; rfl)⟩
def rowBody : Stm := (sSeq (sSet 7 (eOp2 fAdd (eLc (itSeq (eVar 2)) (.slot 11) [10, 11] PV.tYes (eOp2 fIx (eVar 11) (eVar 6))) (eLc (itSeq (eVar 3)) (.slot 11) [10, 11] (tEx (eOp2 fIsn (eOp2 fIx (eVar 11) (eVar 6)) (eCon .non))) (eOp2 fAdd (eOp2 fIx (eVar 11) (eVar 6)) (eCon (.int 1)))))) (sSeq (sEx (eMut mAppend (eVar 4) (esCons (eOp1 fSortSet (eOp2 fAdd (eLst (esCons (eCon (.int 0)) esNil)) (eVar 7))) esNil))) (sSeq (sSet 5 (eOp2 fMul (eVar 5) (eFn bLen (esCons (eOp2 fIx (eVar 4) (eOp1 fNeg (eCon (.int 1)))) esNil)))) sNil)))
theorem rowBody_ok {n : Nat} {a b : A} {ls gs : List Line} (ha : IsLs a ls) (hb : IsLs b gs) (hl : ∀ l ∈ ls, okL n false l) (hg : ∀ l ∈ gs, okL n true l) (hs : ls.length + gs.length ≤ 60) {k : Nat} (hk : k < n) {O : Orc} {w : W} {x7 : Option W} {m : Int} {rows : List (List Int)} (hr : rows.length < 1000) {st : Sto} {c : Nat} (hc : st[c]? = some (.lst (rows.map encI))) :
    ∃ r m' x7', RowOk r ∧ rowBody O [some (.cel 0), some w, some (.v a), some (.v b), some (.cel c), some (.v (.int m)), some (.v (.int k)), x7, none, none, none, none, none, none] st =
      .nx [some (.cel 0), some w, some (.v a), some (.v b), some (.cel c), some (.v (.int m')), some (.v (.int k)), x7', none, none, none, none, none, none] (st.set c (.lst ((rows ++ [r]).map encI))) := by
  -- the entries
  have k1 := eLc_yes (it := itSeq (eVar 2)) (tg := .slot 11) (own := [10, 11]) (x := eOp2 fIx (eVar 11) (eVar 6)) (O := O) (env := [some (.cel 0), some w, some (.v a), some (.v b), some (.cel c), some (.v (.int m)), some (.v (.int k)), x7, none, none, none, none, none, none]) (st := st) ls encL (fun l => .int ((l[k]?.getD none).getD 0)) (itSeq_ls rfl ha (sz60 (by omega))) rfl (by
    intro l hl2
    refine ⟨_, rfl, ?_⟩
    obtain ⟨v, e1, e2, e3⟩ := ix_line (hl l hl2) hk
    cases v with
    | none => cases e2
    | some j => simp [wipe, e1, e3, encE])
  have k2 := eLc_map (it := itSeq (eVar 3)) (tg := .slot 11) (own := [10, 11]) (t := tEx (eOp2 fIsn (eOp2 fIx (eVar 11) (eVar 6)) (eCon .non))) (x := eOp2 fAdd (eOp2 fIx (eVar 11) (eVar 6)) (eCon (.int 1))) (O := O) (env := [some (.cel 0), some w, some (.v a), some (.v b), some (.cel c), some (.v (.int m)), some (.v (.int k)), x7, none, none, none, none, none, none]) (st := st) gs encL (fun l => (l[k]?.getD none).isSome) (fun l => .int ((l[k]?.getD none).getD 0 + 1)) (itSeq_ls rfl hb (sz60 (by omega))) rfl (by
    intro l hl2
    obtain ⟨v, e1, e2, e3⟩ := ix_line (hg l hl2) hk
    refine ⟨_, rfl, ?_, fun h => ?_⟩
    · cases v <;> simp [wipe, e1, e3, encE, A.same]
    · cases v with
      | none => rw [e1] at h; cases h
      | some j => simp [wipe, e1, e3, encE])
  let ns : List Int := ls.map (fun l => (l[k]?.getD none).getD 0) ++ (gs.filter fun l => (l[k]?.getD none).isSome).map fun l => (l[k]?.getD none).getD 0 + 1
  have hns : ∀ x ∈ ns, 0 ≤ x := fun x hx => by
    rcases List.mem_append.mp hx with hx | hx
    · obtain ⟨l, hl2, rfl⟩ := List.mem_map.mp hx
      obtain ⟨v, e1, e2, e3⟩ := ix_line (hl l hl2) hk
      cases v with
      | none => cases e2
      | some j => simpa [e1, okE] using e2
    · obtain ⟨l, hl2, rfl⟩ := List.mem_map.mp hx
      obtain ⟨v, e1, e2, e3⟩ := ix_line (hg l (List.mem_filter.mp hl2).1) hk
      cases v with
      | none => simp [e1]
      | some j =>
        have : 0 ≤ j := by simpa [okE] using e2
        simp [e1]
        omega
  have hnl : ns.length ≤ 60 := by
    have := List.length_filter_le (fun l : Line => (l[k]?.getD none).isSome) gs
    simp only [ns, List.length_append, List.length_map]
    omega
  obtain ⟨r, hr1, hr2⟩ := sortSet_ok hns (by omega)
  have hcl : c < st.length := (List.getElem?_eq_some_iff.mp hc).1
  have hns2 : ls.map (fun l => A.int ((l[k]?.getD none).getD 0)) ++ (gs.filter fun l => (l[k]?.getD none).isSome).map (fun l => A.int ((l[k]?.getD none).getD 0 + 1)) = ns.map .int := by
    show _ = (ls.map (fun l => (l[k]?.getD none).getD 0) ++ (gs.filter fun l => (l[k]?.getD none).isSome).map fun l => (l[k]?.getD none).getD 0 + 1).map A.int
    rw [List.map_append, List.map_map, List.map_map]
    rfl
  have hfits : fAdd (.lst (ls.map fun l => A.int ((l[k]?.getD none).getD 0))) (.lst ((gs.filter fun l => (l[k]?.getD none).isSome).map fun l => A.int ((l[k]?.getD none).getD 0 + 1))) = some (.lst (ns.map .int)) := by
    show fits _ A.lst = _
    unfold fits
    rw [hns2, if_pos (by rw [List.length_map]; exact Nat.le_trans hnl (by decide))]
  have hfits2 : fAdd (.lst [.int 0]) (.lst (ns.map .int)) = some (.lst ((0 :: ns).map .int)) := by
    show fits _ A.lst = _
    unfold fits
    rw [if_pos (by have : Sz = 16777216 := rfl
                   simp; omega)]
    rfl
  refine ⟨r, m * r.length, some (.v (.lst (ns.map .int))), hr2, ?_⟩
  unfold rowBody
  rw [sSeq_eq, sSet_eq, eOp2_eq, k1]
  simp only [bind_ok]
  rw [k2]
  simp only [bind_ok, op2_v, hfits, ofV_some, to_ok, List.set, seq_nx]
  rw [sSeq_eq, sEx_eq]
  unfold eMut
  simp only [eVar_eq, List.getElem?_cons_zero, List.getElem?_cons_succ, bind_ok, isLc, hc, if_true, esCons_eq, eOp1_eq, eOp2_eq, eLst_eq, eCon_eq, esNil_eq, disp1, op2_v, hfits2, ofV_some, op1_v, hr1, mutL, vals_cons, vals_nil, Option.map_some, Option.bind_some, mAppend]
  have happ : rows.map encI ++ [encI r] = (rows ++ [r]).map encI := by simp
  rw [if_pos (by have : Sz = 16777216 := rfl
                 simp; omega), happ]
  simp only [to_ok, seq_nx]
  have hst : (st.set c (.lst ((rows ++ [r]).map encI)))[c]? = some (.lst ((rows ++ [r]).map encI)) := List.getElem?_set_self hcl
  have hlast : fIx (.lst ((rows ++ [r]).map encI)) (.int (-1)) = some (encI r) := by
    show getI ((rows ++ [r]).map encI) (-1) = _
    unfold getI ixP
    rw [if_neg (by omega), if_pos (by simp; omega)]
    simp only [Option.bind_some, List.length_map, List.length_append, List.length_cons, List.length_nil]
    rw [show ((-1 : Int) + ((rows.length + (0 + 1) : Nat) : Int)).toNat = rows.length by omega]
    simp
  have hlen : bLen [encI r] = some (.int r.length) := by show some (A.int ((r.map A.int).length : Int)) = _; rw [List.length_map]
  have hvw : vw (st.set c (.lst ((rows ++ [r]).map encI))) (.cel c) = some (.lst ((rows ++ [r]).map encI)) := by
    show (match (st.set c (.lst ((rows ++ [r]).map encI)))[c]? with
      | some (.lst l) => some (A.lst l)
      | some (.dct l) => some (A.dct l)
      | _ => none) = _
    rw [hst]
  have hr3 := hr2.2.2
  rw [sSeq_eq, sSet_eq]
  simp only [eOp2_eq, eVar_eq, List.getElem?_cons_zero, List.getElem?_cons_succ, bind_ok, eFn_eq, esCons_eq, eOp1_eq, eCon_eq, op1_v, fNeg, ofV_some, op2, hvw, vw_v, Option.bind_some, hlast, esNil_eq, opL_1, hlen, fMul_int (i := m) (j := r.length) (.inr (by omega)), to_ok, List.set, seq_nx, sNil_eq]
theorem rowsGo {n : Nat} {a b : A} {ls gs : List Line} (ha : IsLs a ls) (hb : IsLs b gs) (hl : ∀ l ∈ ls, okL n false l) (hg : ∀ l ∈ gs, okL n true l) (hs : ls.length + gs.length ≤ 60) (hn : n ≤ 10) {O : Orc} {w : W} {tl : Sto} {p : Nat} :
    ∀ (ks : List Nat) (rows : List (List Int)) (st : Sto) (m : Int) (x6 x7 : Option W), (∀ k ∈ ks, k < n) → rows.length + ks.length ≤ n → (∀ r ∈ rows, RowOk r) → penR p (tl ++ [.lst (rows.map encI)]) st →
      ∃ (rows' : List (List Int)) (st' : Sto) (m' : Int) (x6' x7' : Option W), forGo O (.slot 6) rowBody (fun _ => true) (ks.map fun (k : Nat) => A.int k) [some (.cel 0), some w, some (.v a), some (.v b), some (.cel (tl.length + 1)), some (.v (.int m)), x6, x7, none, none, none, none, none, none] st =
        .nx [some (.cel 0), some w, some (.v a), some (.v b), some (.cel (tl.length + 1)), some (.v (.int m')), x6', x7', none, none, none, none, none, none] st' ∧ (∀ r ∈ rows', RowOk r) ∧ rows'.length = rows.length + ks.length ∧ penR p (tl ++ [.lst (rows'.map encI)]) st'
  | [], rows, st, m, x6, x7, _, _, hR, hp => ⟨rows, st, m, x6, x7, rfl, hR, rfl, hp⟩
  | k :: ks, rows, st, m, x6, x7, hk, hlen, hR, hp => by
    rw [List.length_cons] at hlen
    obtain ⟨r, m', x7', q1, q2⟩ := rowBody_ok (O := O) (w := w) (x7 := x7) (m := m) ha hb hl hg hs (hk k List.mem_cons_self) (rows := rows) (by omega) hp.get
    obtain ⟨rows', st', m2, x6', x7'', h1, h2, h3, h4⟩ := rowsGo ha hb hl hg hs hn (O := O) (w := w) ks (rows ++ [r]) _ m' (some (.v (.int k))) x7' (fun j hj => hk j (List.mem_cons_of_mem _ hj)) (by rw [List.length_append]; simp; omega) (fun x hx => by
      rcases List.mem_append.mp hx with hx | hx
      · exact hR x hx
      · rw [show x = r by simpa using hx]; exact q1) (hp.set (c' := .lst ((rows ++ [r]).map encI)))
    refine ⟨rows', st', m2, x6', x7'', ?_, h2, by rw [h3, List.length_append, List.length_cons]; simp; omega, h4⟩
    rw [List.map_cons]
    unfold forGo
    have hput : (Tg.slot 6).put (A.int k) [some (.cel 0), some w, some (.v a), some (.v b), some (.cel (tl.length + 1)), some (.v (.int m)), x6, x7, none, none, none, none, none, none] = some [some (.cel 0), some w, some (.v a), some (.v b), some (.cel (tl.length + 1)), some (.v (.int m)), some (.v (.int k)), x7, none, none, none, none, none, none] := rfl
    rw [hput]
    dsimp only
    rw [q2]
    exact h1
def prodBody : Stm := (sSeq (sSet 9 (eSumL (eLc (itSeq (eVar 8)) (.slot 13) [10, 13] PV.tYes (eLc (itSeq (eVar 9)) (.slot 11) [10, 11] PV.tYes (eOp2 fAdd (eVar 11) (eTup (esCons (eVar 13) esNil))))) (eLst esNil))) sNil)
def grow (xs : List Line) (r : List Int) : List Line := r.flatMap fun v => xs.map fun x => x ++ [some v]
theorem len_grow (xs : List Line) (r : List Int) : (grow xs r).length = r.length * xs.length := len_flatMap xs (fun v x => x ++ [some v]) r
theorem ok_grow {n : Nat} {xs : List Line} {r : List Int} (hx : ∀ x ∈ xs, okL n false x) (hr : RowOk r) : ∀ x ∈ grow xs r, okL (n + 1) false x := fun x h => by
  obtain ⟨v, hv, h⟩ := List.mem_flatMap.mp h
  obtain ⟨y, hy, rfl⟩ := List.mem_map.mp h
  obtain ⟨h1, h2⟩ := hx y hy
  refine ⟨by simp [h1], ?_⟩
  rw [List.all_append, h2]
  have := hr.2.1 v hv
  simpa [okE] using this
theorem lists_map {α : Type} (f : α → List A) : ∀ l : List α, listsA (l.map fun a => .lst (f a)) = some (l.map f)
  | [] => rfl
  | a :: l => by simp [listsA, lists_map f l]
theorem prodBody_ok {O : Orc} {w0 w1 w2 w3 w4 w5 : W} {x6 x7 : Option W} {xs : List Line} {r : List Int} {n : Nat} (hx : ∀ x ∈ xs, okL n false x) (hn : n ≤ 100) (hr : r.length ≤ 62) (hs : r.length * xs.length ≤ Sz) (hs0 : xs.length ≤ Sz) (st : Sto) :
    prodBody O [some w0, some w1, some w2, some w3, some w4, some w5, x6, x7, some (.v (encI r)), some (.v (encLs xs)), none, none, none, none] st =
      .nx [some w0, some w1, some w2, some w3, some w4, some w5, x6, x7, some (.v (encI r)), some (.v (encLs (grow xs r))), none, none, none, none] st := by
  have k := eLc_yes (it := itSeq (eVar 8)) (tg := .slot 13) (own := [10, 13]) (x := eLc (itSeq (eVar 9)) (.slot 11) [10, 11] PV.tYes (eOp2 fAdd (eVar 11) (eTup (esCons (eVar 13) esNil)))) (O := O) (env := [some w0, some w1, some w2, some w3, some w4, some w5, x6, x7, some (.v (encI r)), some (.v (encLs xs)), none, none, none, none]) (st := st) r A.int (fun v => .lst (xs.map fun x => encL (x ++ [some v]))) (itSeq_lst rfl (by rw [List.length_map]; exact sz60' hr)) rfl (by
    intro v _
    refine ⟨_, rfl, ?_⟩
    refine eLc_yes (it := itSeq (eVar 9)) (tg := .slot 11) (own := [10, 11]) (x := eOp2 fAdd (eVar 11) (eTup (esCons (eVar 13) esNil))) xs encL (fun x => encL (x ++ [some v])) (itSeq_lst rfl (by rw [List.length_map]; exact hs0)) rfl (by
      intro x hx2
      refine ⟨_, rfl, ?_⟩
      have hf : fAdd (encL x) (.tup [.int v]) = some (encL (x ++ [some v])) := by
        show fits _ A.tup = _
        unfold fits
        rw [if_pos (by
          have := (hx x hx2).1
          have : Sz = 16777216 := rfl
          simp
          omega)]
        simp [encL, encE]
      simp [wipe, hf]))
  unfold prodBody
  rw [sSeq_eq, sSet_eq]
  unfold eSumL
  rw [k]
  have hl := lists_map (fun v : Int => xs.map fun x => encL (x ++ [some v])) r
  have hfl : (r.map fun v : Int => xs.map fun x => encL (x ++ [some v])).flatten = (grow xs r).map encL := by
    unfold grow
    rw [List.map_flatMap, List.flatMap_def]
    simp only [List.map_map]
    rfl
  have hb : bSumL [.lst (r.map fun v => .lst (xs.map fun x => encL (x ++ [some v]))), .lst []] = some (encLs (grow xs r)) := by
    show ((listsA _).bind fun ms => if ([] : List A).length + ms.flatten.length ≤ Sz then some (A.lst ([] ++ ms.flatten)) else none) = _
    rw [hl, Option.bind_some, hfl, if_pos (by rw [List.length_map, len_grow]; simpa using hs)]
    rfl
  simp only [bind_ok, eLst_eq, esNil_eq, disp0, vw_v, Option.bind_some, hb, ofV_some, to_ok, List.set, seq_nx, sNil_eq]
theorem prodGo {O : Orc} {w0 w1 w2 w3 w4 w5 : W} {x6 x7 : Option W} {st : Sto} {ok : Sto → Bool} (hok : ok st = true) : ∀ (rows : List (List Int)) (xs : List Line) (n : Nat) (x8 : Option W), (∀ r ∈ rows, RowOk r) → (∀ x ∈ xs, okL n false x) → n + rows.length ≤ 4 → xs.length ≤ 62 ^ n →
    ∃ xs' x8', forGo O (.slot 8) prodBody ok (rows.map encI) [some w0, some w1, some w2, some w3, some w4, some w5, x6, x7, x8, some (.v (encLs xs)), none, none, none, none] st =
      .nx [some w0, some w1, some w2, some w3, some w4, some w5, x6, x7, x8', some (.v (encLs xs')), none, none, none, none] st ∧ (∀ x ∈ xs', okL (n + rows.length) false x) ∧ xs'.length ≤ Sz
  | [], xs, n, x8, _, hx, hn, hl => ⟨xs, x8, rfl, hx, by
    have : n ≤ 4 := by simpa using hn
    have : 62 ^ n ≤ 62 ^ 4 := Nat.pow_le_pow_right (by decide) this
    exact Nat.le_trans hl (Nat.le_trans this (by decide))⟩
  | r :: rows, xs, n, x8, hr, hx, hn, hl => by
    rw [List.length_cons] at hn
    have hrk := hr r List.mem_cons_self
    have hg : (grow xs r).length ≤ 62 ^ (n + 1) := by
      rw [len_grow, Nat.pow_succ, Nat.mul_comm (62 ^ n)]
      exact Nat.mul_le_mul hrk.2.2 hl
    have h4 : 62 ^ (n + 1) ≤ 62 ^ 4 := Nat.pow_le_pow_right (by decide) (by omega)
    have h5 : 62 ^ n ≤ 62 ^ 4 := Nat.pow_le_pow_right (by decide) (by omega)
    have hsz : (62 : Nat) ^ 4 ≤ Sz := by decide
    obtain ⟨xs', x8', q1, q2, q3⟩ := prodGo (O := O) (w0 := w0) (w1 := w1) (w2 := w2) (w3 := w3) (w4 := w4) (w5 := w5) (x6 := x6) (x7 := x7) hok rows (grow xs r) (n + 1) (some (.v (encI r))) (fun x h => hr x (List.mem_cons_of_mem _ h)) (ok_grow hx hrk) (by omega) hg
    refine ⟨xs', x8', ?_, by rw [List.length_cons, show n + (rows.length + 1) = n + 1 + rows.length by omega]; exact q2, q3⟩
    rw [List.map_cons]
    unfold forGo
    have hput : (Tg.slot 8).put (encI r) [some w0, some w1, some w2, some w3, some w4, some w5, x6, x7, x8, some (.v (encLs xs)), none, none, none, none] = some [some w0, some w1, some w2, some w3, some w4, some w5, x6, x7, some (.v (encI r)), some (.v (encLs xs)), none, none, none, none] := rfl
    rw [hput]
    dsimp only
    rw [prodBody_ok (O := O) hx (by omega) hrk.2.2 (by rw [← len_grow]; omega) (by omega)]
    simp only [hok, if_true]
    exact q1
theorem ints_of : ∀ {ys : List A}, (∀ y ∈ ys, ∃ v : Int, 0 ≤ v ∧ y = .int v) → ∃ vs : List Int, ys = vs.map .int ∧ ∀ v ∈ vs, 0 ≤ v
  | [], _ => ⟨[], rfl, fun _ h => nomatch h⟩
  | y :: ys, h => by
    obtain ⟨v, hv, rfl⟩ := h y List.mem_cons_self
    obtain ⟨vs, rfl, h2⟩ := ints_of (ys := ys) fun z hz => h z (List.mem_cons_of_mem _ hz)
    exact ⟨v :: vs, rfl, fun z hz => (List.mem_cons.mp hz).elim (fun e => e ▸ hv) (h2 z)⟩
theorem lines_of {n : Nat} : ∀ {ys : List A}, (∀ y ∈ ys, ∃ x, okL n false x ∧ y = encL x) → ∃ xs : List Line, ys = xs.map encL ∧ ∀ x ∈ xs, okL n false x
  | [], _ => ⟨[], rfl, fun _ h => nomatch h⟩
  | y :: ys, h => by
    obtain ⟨v, hv, rfl⟩ := h y List.mem_cons_self
    obtain ⟨vs, rfl, h2⟩ := lines_of (ys := ys) fun z hz => h z (List.mem_cons_of_mem _ hz)
    exact ⟨v :: vs, rfl, fun z hz => (List.mem_cons.mp hz).elim (fun e => e ▸ hv) (h2 z)⟩
/-- a drawn line -/
theorem drawnLine (hp : PenT T c1 c2 c3 c4) (h24 : T 24 = some pickF) {w1 w2 w3 w5 : W} {x6 x7 : Option W} {tl : Sto} {rows : List (List Int)} (hR : ∀ r ∈ rows, RowOk r) (hl : rows.length ≤ 4) {q : Nat} {lap : W} {st : Sto} (h : penR (rows.length + q) (tl ++ [.lst (rows.map encI)]) st) :
    ∃ x st', eFn bTuple (esCons (eLc (itSeq (eVar 4)) (.slot 8) [10, 8] PV.tYes (eCall 24 (esDef (esCons (eVar 0) (esCons (eVar 8) esNil)) []))) esNil) (run T (d + 2)) [some (.cel 0), some w1, some w2, some w3, some (.cel (tl.length + 1)), some w5, x6, x7, none, none, none, none, some lap, none] st = .ok (.v (encL x)) st' ∧ okL rows.length false x ∧ penR q (tl ++ [.lst (rows.map encI)]) st' := by
  obtain ⟨ys, st', k1, k2, k3, k4⟩ := eLc_left (it := itSeq (eVar 4)) (tg := .slot 8) (own := [10, 8]) (x := eCall 24 (esDef (esCons (eVar 0) (esCons (eVar 8) esNil)) [])) (O := run T (d + 2)) (env := [some (.cel 0), some w1, some w2, some w3, some (.cel (tl.length + 1)), some w5, x6, x7, none, none, none, none, some lap, none]) (fun j st => penR (j + q) (tl ++ [.lst (rows.map encI)]) st) rows encI (fun r y => ∃ v ∈ r, y = .int v) (itSeq_cel rfl h.get (by rw [List.length_map]; exact sz60' (by omega))) (by rw [h.get]; exact A.sameL_refl _) h (by
    intro r hr k st hk
    obtain ⟨a, st2, e, h1, h2⟩ := pick0 (d := d) hp h24 (k := k + q) (tl := tl ++ [.lst (rows.map encI)]) (st := st) (by rw [show k + q + 1 = k + 1 + q by omega]; exact hk) (x := encI r) (l := r.map .int) (.inl rfl) (by intro e; exact (hR r hr).1 (by simpa using e)) (by rw [List.length_map]; have := (hR r hr).2.2; omega)
    obtain ⟨v, hv, rfl⟩ := List.mem_map.mp h1
    refine ⟨_, .int v, st2, rfl, ?_, by rw [h2.get]; exact A.sameL_refl _, h2, v, hv, rfl⟩
    simp only [eCall_eq, esDef_eq, esCons_eq, eVar_eq, esNil_eq, wipe, List.foldr, List.set, List.getElem?_cons_zero, List.getElem?_cons_succ, bind_ok, List.map_nil, List.append_nil]
    exact e)
  obtain ⟨vs, rfl, hv⟩ := ints_of (ys := ys) fun y hy => by
    obtain ⟨r, hr, v, hv, e⟩ := k4 y hy
    exact ⟨v, (hR r hr).2.1 v hv, e⟩
  refine ⟨vs.map some, st', ?_, ⟨by simpa using k3, ?_⟩, by simpa using k2⟩
  · rw [eFn_eq, esCons_eq, k1]
    simp [bTuple, encL]
    exact fun _ _ => rfl
  · simp only [List.all_map, List.all_eq_true, Function.comp]
    exact fun v h => by simpa [okE] using hv v h
theorem drawnAll (hp : PenT T c1 c2 c3 c4) (h24 : T 24 = some pickF) {w1 w2 w3 w5 : W} {x6 x7 : Option W} {tl : Sto} {rows : List (List Int)} (hR : ∀ r ∈ rows, RowOk r) (hl : rows.length ≤ 4) {m q : Nat} {mi : Int} (hmi : mi = m) (hm : m ≤ 1000000) {st : Sto} (h : penR (m * rows.length + q) (tl ++ [.lst (rows.map encI)]) st) :
    ∃ xs st', eLc (itRng1 (eCon (.int mi))) (.slot 12) [10, 12] PV.tYes (eFn bTuple (esCons (eLc (itSeq (eVar 4)) (.slot 8) [10, 8] PV.tYes (eCall 24 (esDef (esCons (eVar 0) (esCons (eVar 8) esNil)) []))) esNil)) (run T (d + 2)) [some (.cel 0), some w1, some w2, some w3, some (.cel (tl.length + 1)), some w5, x6, x7, none, none, none, none, none, none] st = .ok (.v (encLs xs)) st' ∧ (∀ x ∈ xs, okL rows.length false x) ∧ xs.length = m ∧ penR q (tl ++ [.lst (rows.map encI)]) st' := by
  subst hmi
  obtain ⟨ys, st2, k1, k2, k3, k4⟩ := eLc_left (it := itRng1 (eCon (.int m))) (tg := .slot 12) (own := [10, 12]) (x := eFn bTuple (esCons (eLc (itSeq (eVar 4)) (.slot 8) [10, 8] PV.tYes (eCall 24 (esDef (esCons (eVar 0) (esCons (eVar 8) esNil)) []))) esNil)) (O := run T (d + 2)) (env := [some (.cel 0), some w1, some w2, some w3, some (.cel (tl.length + 1)), some w5, x6, x7, none, none, none, none, none, none]) (st0 := st) (st := st) (fun j st => penR (j * rows.length + q) (tl ++ [.lst (rows.map encI)]) st) (List.range m) (fun (k : Nat) => A.int k) (fun _ y => ∃ x, okL rows.length false x ∧ y = encL x) (itRng_ok (n := m) rfl hm) rfl (by rw [List.length_range]; exact h) (by
    intro k _ j st hj
    obtain ⟨x, st', e1, e2, e3⟩ := drawnLine (d := d) hp h24 (w1 := w1) (w2 := w2) (w3 := w3) (w5 := w5) (x6 := x6) (x7 := x7) (tl := tl) (rows := rows) hR hl (q := j * rows.length + q) (lap := .v (.int k)) (st := st) (by rw [show rows.length + (j * rows.length + q) = (j + 1) * rows.length + q by rw [Nat.add_mul]; omega]; exact hj)
    exact ⟨_, _, st', rfl, e1, rfl, e3, x, e2, rfl⟩)
  obtain ⟨xs, rfl, hx⟩ := lines_of (ys := ys) fun y hy => by obtain ⟨_, _, q⟩ := k4 y hy; exact q
  exact ⟨xs, st2, k1, hx, by simpa using k3, by simpa using k2⟩
theorem par_rows (O : Orc) (w0 w1 w2 w3 : Option W) (st : Sto) : sPar 4 5 (eNew (eLst esNil)) (eCon (.int 1)) O [w0, w1, w2, w3, none, none, none, none, none, none, none, none, none, none] st = .nx [w0, w1, w2, w3, some (.cel st.length), some (.v (.int 1)), none, none, none, none, none, none, none, none] (st ++ [.lst []]) := by
  rw [sPar_eq, eNew_eq, eLst_eq, esNil_eq, bind_ok, disp0]
  rfl
theorem beginB {n : Nat} (hn : n ≤ 4) {a b : A} {ls gs : List Line} (ha : IsLs a ls) (hb : IsLs b gs) (hl : ∀ l ∈ ls, okL n false l) (hg : ∀ l ∈ gs, okL n true l) (hs : ls.length + gs.length ≤ 60) {q : Nat} {tl st : Sto} (h : penR q tl st) {O : Orc} :
    ∃ (rows : List (List Int)) (st1 : Sto) (m' : Int) (x6 x7 : Option W), (∀ R : Stm, (sSeq (sPar 4 5 (eNew (eLst esNil)) (eCon (.int 1))) (sSeq (sFor (itRng1 (eVar 1)) (.slot 6) rowBody) R)) O [some (.cel 0), some (.v (.int n)), some (.v a), some (.v b), none, none, none, none, none, none, none, none, none, none] st =
      R O [some (.cel 0), some (.v (.int n)), some (.v a), some (.v b), some (.cel (tl.length + 1)), some (.v (.int m')), x6, x7, none, none, none, none, none, none] st1) ∧ (∀ r ∈ rows, RowOk r) ∧ rows.length = n ∧ penR q (tl ++ [.lst (rows.map encI)]) st1 := by
  obtain ⟨rows, st1, m', x6, x7, r1, r2, r3, r4⟩ := rowsGo (O := O) (w := .v (.int n)) ha hb hl hg hs (Nat.le_trans hn (by decide)) (tl := tl) (p := q) (List.range n) [] (st ++ [.lst []]) 1 none none (fun k hk => List.mem_range.mp hk) (by simp) (fun _ h => nomatch h) (h.app _)
  refine ⟨rows, st1, m', x6, x7, fun R => ?_, r2, by simpa using r3, r4⟩
  rw [sSeq_eq, par_rows, seq_nx]
  rw [sSeq_eq, sFor_eq, itRng_ok (n := n) rfl (Nat.le_trans hn (Nat.le_of_ble_eq_true rfl)), to_ok, if_pos rfl]
  rw [h.len]
  rw [r1]
  rfl
theorem endAll {w0 w1 w2 w3 w5 : W} {x6 x7 : Option W} {tl : Sto} {rows : List (List Int)} (hR : ∀ r ∈ rows, RowOk r) (hl : rows.length ≤ 4) {q : Nat} {st : Sto} (h : penR q (tl ++ [.lst (rows.map encI)]) st) {O : Orc} :
    ∃ xs, (sSeq (sSet 9 (eLst (esCons (eTup esNil) esNil))) (sSeq (sFor (itSeq (eVar 4)) (.slot 8) prodBody) (sSeq (sRet (eVar 9)) sNil))) O [some w0, some w1, some w2, some w3, some (.cel (tl.length + 1)), some w5, x6, x7, none, none, none, none, none, none] st = .rt (.v (encLs xs)) st ∧ (∀ x ∈ xs, okL rows.length false x) ∧ xs.length ≤ Sz := by
  obtain ⟨ok, hit, hok⟩ := itSeq_celX (i := 4) (O := O) (env := [some w0, some w1, some w2, some w3, some (.cel (tl.length + 1)), some w5, x6, x7, none, some (.v (A.lst [A.tup []])), none, none, none, none]) rfl h.get (by rw [List.length_map]; exact sz60' (by omega))
  have hok := hok st h.get
  obtain ⟨xs, x8', k1, k2, k3⟩ := prodGo (O := O) (w0 := w0) (w1 := w1) (w2 := w2) (w3 := w3) (w4 := .cel (tl.length + 1)) (w5 := w5) (x6 := x6) (x7 := x7) (st := st) (ok := ok) hok rows [[]] 0 none hR (fun x hx => by rw [show x = [] by simpa using hx]; exact ⟨rfl, rfl⟩) (by omega) (by simp)
  refine ⟨xs, ?_, by simpa using k2, k3⟩
  rw [sSeq_eq, sSet_eq]
  simp only [eLst_eq, esCons_eq, eTup_eq, esNil_eq, bind_ok, disp0, disp1, to_ok, List.set, seq_nx]
  rw [sSeq_eq, sFor_eq, hit]
  simp only [to_ok, hok, if_true]
  have k1' : forGo O (.slot 8) prodBody ok (rows.map encI) [some w0, some w1, some w2, some w3, some (.cel (tl.length + 1)), some w5, x6, x7, none, some (.v (A.lst [A.tup []])), none, none, none, none] st = _ := k1
  rw [k1']
  rfl
def linesB : Stm := (sSeq (sPar 4 5 (eNew (eLst esNil)) (eCon (.int 1))) (sSeq (sFor (itRng1 (eVar 1)) (.slot 6) rowBody) (sSeq (sIf (tEx (eOp2 fGt (eVar 5) (eCon (.int 5000)))) (sSeq (sRet (eLc (itRng1 (eCon (.int 900))) (.slot 12) [10, 12] PV.tYes (eFn bTuple (esCons (eLc (itSeq (eVar 4)) (.slot 8) [10, 8] PV.tYes (eCall 24 (esDef (esCons (eVar 0) (esCons (eVar 8) esNil)) []))) esNil)))) sNil) sNil) (sSeq (sSet 9 (eLst (esCons (eTup esNil) esNil))) (sSeq (sFor (itSeq (eVar 4)) (.slot 8) prodBody) (sSeq (sRet (eVar 9)) sNil))))))
def linesF : FnD := ⟨4, 14, linesB, false⟩
theorem linesF_eq : f__law_b_lines = linesF := rfl
theorem linesB_ok (hp : PenT T c1 c2 c3 c4) (h24 : T 24 = some pickF) {n : Nat} (hn : n ≤ 4) {a b : A} {ls gs : List Line} (ha : IsLs a ls) (hb : IsLs b gs) (hl : ∀ l ∈ ls, okL n false l) (hg : ∀ l ∈ gs, okL n true l) (hs : ls.length + gs.length ≤ 60) {q : Nat} {tl st : Sto} (htl : plainSto tl = true) (h : penR (900 * n + q) tl st) :
    ∃ (xs : List Line) (st2 : Sto) (c : Cell), linesB (run T (d + 2)) [some (.cel 0), some (.v (.int n)), some (.v a), some (.v b), none, none, none, none, none, none, none, none, none, none] st = .rt (.v (encLs xs)) (st2 ++ [c]) ∧ (∀ x ∈ xs, okL n false x) ∧ xs.length ≤ Sz ∧ penR q tl st2 := by
  obtain ⟨rows, st1, m', x6, x7, beg, r2, r3, r4⟩ := beginB hn ha hb hl hg hs h (O := run T (d + 2))
  obtain ⟨st0, e0, p0⟩ := r4.tail
  unfold linesB
  rw [beg, sSeq_eq, sIf_eq]
  by_cases hm : m' > 5000
  · obtain ⟨xs, st2, k1, k2, k3, k4⟩ := drawnAll (d := d) hp h24 (w1 := .v (.int n)) (w2 := .v a) (w3 := .v b) (w5 := .v (.int m')) (x6 := x6) (x7 := x7) (tl := tl) (rows := rows) r2 (by omega) (m := 900) (mi := 900) (q := q) rfl (by omega) (st := st1) (by rw [r3]; exact r4)
    obtain ⟨st3, rfl, p3⟩ := k4.tail
    refine ⟨xs, st3, .lst (rows.map encI), ?_, by rw [← r3]; exact k2, by rw [k3]; exact Nat.le_of_ble_eq_true rfl, p3⟩
    simp only [tEx_eq, eOp2_eq, eVar_eq, eCon_eq, List.getElem?_cons_zero, List.getElem?_cons_succ, bind_ok, op2_v, fGt_int, decide_eq_true hm, ofV_some, truthW_bl, to_ok, if_true]
    rw [sSeq_eq, sRet_eq, k1]
    rfl
  · obtain ⟨xs, k1, k2, k3⟩ := endAll (w0 := .cel 0) (w1 := .v (.int n)) (w2 := .v a) (w3 := .v b) (w5 := .v (.int m')) (x6 := x6) (x7 := x7) r2 (by omega) r4 (O := run T (d + 2))
    refine ⟨xs, st0, .lst (rows.map encI), ?_, by rw [← r3]; exact k2, k3, p0.mono (by omega)⟩
    simp only [tEx_eq, eOp2_eq, eVar_eq, eCon_eq, List.getElem?_cons_zero, List.getElem?_cons_succ, bind_ok, op2_v, fGt_int, decide_eq_false hm, ofV_some, truthW_bl, to_ok, Bool.false_eq_true, if_false, sNil_eq, seq_nx]
    rw [k1, e0]
theorem lines_ok (hp : PenT T c1 c2 c3 c4) (h24 : T 24 = some pickF) (h30 : T 30 = some linesF) {n : Nat} (hn : n ≤ 4) {a b : A} {ls gs : List Line} (ha : IsLs a ls) (hb : IsLs b gs) (hl : ∀ l ∈ ls, okL n false l) (hg : ∀ l ∈ gs, okL n true l) (hs : ls.length + gs.length ≤ 60) {q : Nat} {tl st : Sto} (htl : plainSto tl = true) (h : penR (900 * n + q) tl st) :
    ∃ (xs : List Line) (st2 : Sto), run T (d + 3) 30 [.cel 0, .v (.int n), .v a, .v b] st = .ok (.v (encLs xs)) st2 ∧ (∀ x ∈ xs, okL n false x) ∧ xs.length ≤ Sz ∧ penR q tl st2 := by
  obtain ⟨xs, st2, c, m1, m2, m3, m4⟩ := linesB_ok (d := d) hp h24 hn ha hb hl hg hs htl h
  refine ⟨xs, st2, run_rtV (fd := linesF) (st1 := st2 ++ [c]) (w := .v (encLs xs)) h30 rfl rfl ?_ (leave_v' (by rw [m4.len, h.len]) (m4.plain htl)), m2, m3, m4⟩
  have e : ([PV.W.cel 0, .v (.int n), .v a, .v b] : List PV.W).map some ++ List.replicate (linesF.ns - linesF.np) none = [some (.cel 0), some (.v (.int n)), some (.v a), some (.v b), none, none, none, none, none, none, none, none, none, none] := rfl
  have e2 : linesF.body = linesB := rfl
  rw [e, e2]
  exact m1
/-! ### parted -/
def partBody : Stm := (sSeq (sPar 5 6 (eOp2 fNe (eLc (itSeq (eVar 2)) (.slot 8) [7, 8] (tEx (eCall 25 (esDef (esCons (eVar 8) (esCons (eVar 4) esNil)) []))) (eCon (.int 1))) (eLst esNil)) (eOp2 fNe (eLc (itSeq (eVar 3)) (.slot 8) [7, 8] (tEx (eCall 25 (esDef (esCons (eVar 4) (esCons (eVar 8) esNil)) []))) (eCon (.int 1))) (eLst esNil))) (sSeq (sIf (tEx (eOp2 fEq (eVar 5) (eVar 6))) (sSeq (sRet (eCon (.bl false))) sNil) sNil) sNil))
def partB : Stm := (sSeq (sFor (itSeq (eCall 30 (esDef (esCons (eVar 0) (esCons (eVar 1) (esCons (eVar 2) (esCons (eVar 3) esNil)))) []))) (.slot 4) partBody) (sSeq (sRet (eAnd (eOp2 fEq (eCall 28 (esDef (esCons (eVar 2) esNil) [])) (eCall 27 (esDef (esCons (eVar 2) esNil) []))) (eOp2 fEq (eCall 29 (esDef (esCons (eVar 3) esNil) [])) (eCall 27 (esDef (esCons (eVar 3) esNil) []))))) sNil))
def partF : FnD := ⟨4, 9, partB, false⟩
theorem partF_eq : f__law_b_parted = partF := rfl
theorem ones_ne (l : List Line) (p : Line → Bool) : fNe (.lst ((l.filter p).map fun _ => A.int 1)) (.lst []) = some (.bl (l.any p)) := by
  rw [fNe_nil (flat_lst (n := 0) (fun x hx => by obtain ⟨_, _, rfl⟩ := List.mem_map.mp hx; exact dat_int _ _) (by decide)), List.isEmpty_map]
  congr 2
  induction l with
  | nil => rfl
  | cons a l ih =>
    rw [List.filter_cons, List.any_cons]
    cases p a
    · simpa using ih
    · rfl
theorem fEq_bl (x y : Bool) : fEq (.bl x) (.bl y) = some (.bl (x == y)) := rfl
theorem partBody_ok (hO : OwnT T) {w0 w1 : W} {a b : A} {ls gs : List Line} (ha : IsLs a ls) (hb : IsLs b gs) {n : Nat} (hl : Wide n ls) (hg : Wide n gs) (hn : n ≤ 1000) (hls : ls.length ≤ Sz) (hgs : gs.length ≤ Sz) {x : Line} (hx : x.length = n) (hp : (ls.any fun l => noGt l x) = !gs.any fun g => noGt x g) {x5 x6 : Option W} (st : Sto) :
    ∃ y5 y6, partBody (run T (d + 1)) [some w0, some w1, some (.v a), some (.v b), some (.v (encL x)), x5, x6, none, none] st = .nx [some w0, some w1, some (.v a), some (.v b), some (.v (encL x)), y5, y6, none, none] st := by
  have small : ∀ {l : Line}, l.length = n → l.length ≤ Sz := fun h => by rw [h]; exact Nat.le_trans hn (by decide)
  have k1 := eLc_map (it := itSeq (eVar 2)) (tg := .slot 8) (own := [7, 8]) (t := tEx (eCall 25 (esDef (esCons (eVar 8) (esCons (eVar 4) esNil)) []))) (x := eCon (.int 1)) (O := run T (d + 1)) (env := [some w0, some w1, some (.v a), some (.v b), some (.v (encL x)), x5, x6, none, none]) (st := st) ls encL (fun l => noGt l x) (fun _ => .int 1) (itSeq_ls rfl ha hls) rfl (by
    intro l hl2
    refine ⟨_, rfl, ?_, fun _ => rfl⟩
    have e := below_ok (d := d) hO l x (small (hl l hl2)) st
    simp [wipe]
    rw [e]
    rfl)
  have k2 := eLc_map (it := itSeq (eVar 3)) (tg := .slot 8) (own := [7, 8]) (t := tEx (eCall 25 (esDef (esCons (eVar 4) (esCons (eVar 8) esNil)) []))) (x := eCon (.int 1)) (O := run T (d + 1)) (env := [some w0, some w1, some (.v a), some (.v b), some (.v (encL x)), x5, x6, none, none]) (st := st) gs encL (fun g => noGt x g) (fun _ => .int 1) (itSeq_ls rfl hb hgs) rfl (by
    intro g hg2
    refine ⟨_, rfl, ?_, fun _ => rfl⟩
    have e := below_ok (d := d) hO x g (small hx) st
    simp [wipe]
    rw [e]
    rfl)
  refine ⟨some (.v (.bl (ls.any fun l => noGt l x))), some (.v (.bl (gs.any fun g => noGt x g))), ?_⟩
  unfold partBody
  rw [sSeq_eq, sPar_eq, eOp2_eq, k1, bind_ok, eLst_eq, esNil_eq, bind_ok, disp0, bind_ok, op2_v, ones_ne, ofV_some, to_ok, eOp2_eq, k2, bind_ok, eLst_eq, esNil_eq, bind_ok, disp0, bind_ok, op2_v, ones_ne, ofV_some, to_ok]
  rw [hp]
  cases gs.any fun g => noGt x g <;> rfl
theorem partGo (hO : OwnT T) {w0 w1 : W} {a b : A} {ls gs : List Line} (ha : IsLs a ls) (hb : IsLs b gs) {n : Nat} (hl : Wide n ls) (hg : Wide n gs) (hn : n ≤ 1000) (hls : ls.length ≤ Sz) (hgs : gs.length ≤ Sz) (hp : ∀ x, okL n false x → (ls.any fun l => noGt l x) = !gs.any fun g => noGt x g) (st : Sto) :
    ∀ (xs : List Line) (x4 x5 x6 : Option W), (∀ x ∈ xs, okL n false x) → ∃ y4 y5 y6, forGo (run T (d + 1)) (.slot 4) partBody (fun _ => true) (xs.map encL) [some w0, some w1, some (.v a), some (.v b), x4, x5, x6, none, none] st = .nx [some w0, some w1, some (.v a), some (.v b), y4, y5, y6, none, none] st
  | [], x4, x5, x6, _ => ⟨x4, x5, x6, rfl⟩
  | x :: xs, x4, x5, x6, hx => by
    obtain ⟨y5, y6, e⟩ := partBody_ok (d := d) hO (w0 := w0) (w1 := w1) ha hb hl hg hn hls hgs (hx x List.mem_cons_self).1 (hp x (hx x List.mem_cons_self)) (x5 := x5) (x6 := x6) st
    obtain ⟨z4, z5, z6, ih⟩ := partGo hO ha hb hl hg hn hls hgs hp st xs (some (.v (encL x))) y5 y6 fun z hz => hx z (List.mem_cons_of_mem _ hz)
    refine ⟨z4, z5, z6, ?_⟩
    rw [List.map_cons]
    unfold forGo
    have hput : (Tg.slot 4).put (encL x) [some w0, some w1, some (.v a), some (.v b), x4, x5, x6, none, none] = some [some w0, some w1, some (.v a), some (.v b), some (.v (encL x)), x5, x6, none, none] := rfl
    rw [hput]
    dsimp only
    rw [e]
    exact ih
theorem parted_ok (hp : PenT T c1 c2 c3 c4) (hO : OwnT T) (h24 : T 24 = some pickF) (h30 : T 30 = some linesF) (h31 : T 31 = some partF) {n : Nat} (hn : n ≤ 4) {a b : A} {ls gs : List Line} (ha : IsLs a ls) (hb : IsLs b gs) (hl : ∀ l ∈ ls, okL n false l) (hg : ∀ l ∈ gs, okL n true l) (hs : ls.length + gs.length ≤ 60)
    (hpt : ∀ x, okL n false x → (ls.any fun l => noGt l x) = !gs.any fun g => noGt x g) (e1 : lLaw ls = ls.mergeSort leL) (e2 : gLaw gs = gs.mergeSort leL) {q : Nat} {tl st : Sto} (htl : plainSto tl = true) (h : penR (900 * n + q) tl st) :
    ∃ st2, run T (d + 4) 31 [.cel 0, .v (.int n), .v a, .v b] st = .ok (.v (.bl true)) st2 ∧ penR q tl st2 := by
  obtain ⟨xs, st2, m1, m2, m3, m4⟩ := lines_ok (d := d) hp h24 h30 hn ha hb hl hg hs htl h
  refine ⟨st2, ?_, m4⟩
  refine run_rt (fd := partF) h31 rfl ?_ (by rw [m4.len, h.len])
  have hls : ls.length ≤ Sz := sz60 (by omega)
  have hgs : gs.length ≤ Sz := sz60 (by omega)
  obtain ⟨y4, y5, y6, go⟩ := partGo (d := d + 2) hO (w0 := .cel 0) (w1 := .v (.int n)) ha hb (Wide.of hl) (Wide.of hg) (by omega) hls hgs hpt st2 xs none none none m2
  have w1 : ∀ l ∈ ls, l.length ≤ 1000 := fun l hl2 => by rw [(hl l hl2).1]; omega
  have w2 : ∀ l ∈ gs, l.length ≤ 1000 := fun l hl2 => by rw [(hg l hl2).1]; omega
  have q1 := least_ok (d := d) hO ha hls w1 st2
  have q2 := sorted_ok (d := d + 1) hO ha w1 st2
  have q3 := greatest_ok (d := d) hO hb hgs w2 st2
  have q4 := sorted_ok (d := d + 1) hO hb w2 st2
  have e : ([PV.W.cel 0, .v (.int n), .v a, .v b] : List PV.W).map some ++ List.replicate (partF.ns - partF.np) none = [some (.cel 0), some (.v (.int n)), some (.v a), some (.v b), none, none, none, none, none] := rfl
  have e0 : partF.body = partB := rfl
  rw [e, e0]
  unfold partB
  rw [sSeq_eq, sFor_eq, itSeq_eq]
  simp only [eCall_eq, esDef_eq, esCons_eq, esNil_eq, eVar_eq, List.getElem?_cons_zero, List.getElem?_cons_succ, bind_ok, List.map_nil, List.append_nil]
  rw [m1]
  simp only [bind_ok, encLs, src_lst, itms_some (l := xs.map encL) _ (by rw [List.length_map]; exact m3), to_ok, if_true]
  rw [go]
  simp only [seq_nx]
  rw [sSeq_eq, sRet_eq, eAnd_eq]
  simp only [eOp2_eq, eCall_eq, esDef_eq, esCons_eq, esNil_eq, eVar_eq, List.getElem?_cons_zero, List.getElem?_cons_succ, bind_ok, List.map_nil, List.append_nil]
  rw [q1]
  simp only [bind_ok]
  rw [q2]
  simp only [bind_ok, op2_v, fEq_encLs, e1, decide_true, ofV_some, truthW_bl, if_true]
  rw [q3]
  simp only [bind_ok]
  rw [q4]
  simp only [bind_ok, op2_v, fEq_encLs, e2, decide_true, ofV_some, to_ok, seq_rt]
end
end K31
end PV
end
section
set_option linter.all false
set_option Elab.async false
set_option maxRecDepth 100000
/-! LK31b: the law of what lies outside of lines, its turns. -/
namespace PV
theorem Asc.sort {l : List Line} (h : Asc l) : l.mergeSort leL = l :=
  Asc.ext ⟨(List.mergeSort_perm _ _).nodup_iff.mpr h.1, List.pairwise_mergeSort leL_trans leL_total _⟩ h fun _ => List.mem_mergeSort
/-- lines of integers are ordered as they stand -/
theorem lt_encL_int : ∀ {a b : Line}, (∀ v ∈ a, v.isSome = true) → (∀ v ∈ b, v.isSome = true) → A.lt (encL a) (encL b) = ltL a b
  | [], [], _, _ => by simp [A.lt, encL, A.toks, A.toksL, lexS, ltL, itLt]
  | [], w :: b, _, _ => by simp [A.lt, encL, A.toks, A.toksL, lexS, ltL, itLt]
  | v :: a, [], _, _ => by simp [A.lt, encL, A.toks, A.toksL, lexS, ltL, itLt]
  | v :: a, w :: b, h1, h2 => by
    have ih := lt_encL_int (a := a) (b := b) (fun x hx => h1 x (List.mem_cons_of_mem _ hx)) (fun x hx => h2 x (List.mem_cons_of_mem _ hx))
    have hv := h1 v List.mem_cons_self
    have hw := h2 w List.mem_cons_self
    cases v with
    | none => cases hv
    | some i =>
      cases w with
      | none => cases hw
      | some j =>
        unfold A.lt encL at ih ⊢
        simp only [A.toks, List.map_cons, A.toksL, encE, List.cons_append, List.nil_append] at ih ⊢
        rw [lexS_self]
        simp [lexS_cons, itLt, ltE, ltL, ih]
theorem isSome_of {n : Nat} {l : Line} (h : okL n false l) : ∀ v ∈ l, v.isSome = true := fun v hv => by
  have := List.all_eq_true.mp h.2 v hv
  cases v with
  | none => cases this
  | some _ => rfl
theorem sortedC_lines {n : Nat} {ls : List Line} (hn : 1 ≤ n) (h : ∀ l ∈ ls, okL n false l) (ha : Asc ls) : bSortedC [.tup (ls.map encL)] = some (encLs ls) := by
  show (if flat (.lst (ls.map encL)) && sortable (ls.map encL) then some (A.lst (sortA (ls.map encL))) else none) = _
  have hal : ∀ a b : Line, (∀ v ∈ a, v.isSome = true) → (∀ v ∈ b, v.isSome = true) → A.alike (encL a) (encL b) = true := by
    have go : ∀ a b : Line, (∀ v ∈ a, v.isSome = true) → (∀ v ∈ b, v.isSome = true) → A.alikeL (a.map encE) (b.map encE) = true := by
      intro a
      induction a with
      | nil => intro b _ _; cases b <;> rfl
      | cons v a ih =>
        intro b h1 h2
        cases b with
        | nil => rfl
        | cons w b =>
          have hv := h1 v List.mem_cons_self
          have hw := h2 w List.mem_cons_self
          have : A.alike (encE v) (encE w) = true := by
            cases v with
            | none => cases hv
            | some _ => cases w with
              | none => cases hw
              | some _ => rfl
          simp only [List.map_cons, A.alikeL, this, Bool.true_and]
          exact ih b (fun x hx => h1 x (List.mem_cons_of_mem _ hx)) (fun x hx => h2 x (List.mem_cons_of_mem _ hx))
    exact go
  rw [if_pos (by
    rw [flat_lst (n := 1) (fun x hx => by obtain ⟨v, _, rfl⟩ := List.mem_map.mp hx; exact dat_encL v) (by decide), Bool.true_and]
    unfold sortable
    simp only [Bool.and_eq_true, Bool.or_eq_true, List.all_map, List.all_eq_true, Function.comp]
    refine ⟨fun a ha b hb => hal a b (isSome_of (h a ha)) (isSome_of (h b hb)), .inl fun a ha => ?_⟩
    have := (h a ha).1
    cases a with
    | nil => simp at this; omega
    | cons v a => rfl)]
  unfold sortA
  rw [← List.map_mergeSort (r := leL) (s := fun a b : A => !A.lt b a) (f := encL) fun a ha b hb => by rw [lt_encL_int (isSome_of (h b hb)) (isSome_of (h a ha))]; rfl, ha.sort]
  rfl
theorem pre_ok {n : Nat} {w : Bool} {r ls : List Line} (hr : r <+: ls) (h : ∀ l ∈ ls, okL n w l) : ∀ l ∈ r, okL n w l := fun l hl => h l (hr.subset hl)
namespace K31
structure LawT (T : Nat → Option FnD) (ck : Nat → Bool) (sub : Nat → Nat → Option Bool) (c1 c2 c3 c4 : Int) : Prop where
  c : ChecksT T (bIsi ck sub)
  l : LinesT T
  a : LinesA T
  p : PenT T c1 c2 c3 c4
  o : OwnT T
  t22 : T 22 = some penF
  t24 : T 24 = some pickF
  t30 : T 30 = some linesF
  t31 : T 31 = some partF
section
variable {T : Nat → Option FnD} {d : Nat} {c1 c2 c3 c4 : Int} {ck : Nat → Bool} {sub : Nat → Nat → Option Bool}
/-- the frame within a turn -/
abbrev E15 (s : PV.W) (x2 : Option PV.W) (n : Nat) (m : Int) (x5 x6 x7 x8 x9 x10 : Option PV.W) : Env := [some s, some (.cel 0), x2, some (.v (.int n)), some (.v (.int m)), x5, x6, x7, x8, x9, x10, none, none, none, none]
/-- a drawn line, entry by entry -/
theorem rowE {w : Bool} {O : Orc} {s : PV.W} {x2 : Option PV.W} {n : Nat} {m : Int} {x5 x6 x7 x8 x9 x10 : Option PV.W} {lap : PV.W} (hn : n ≤ 1000) {x : Ex} {c : Nat} {tl : Sto}
    (hx : ∀ (k q : Nat) (st : Sto), penR (c + q) tl st → ∃ v st', x O [some s, some (.cel 0), x2, some (.v (.int n)), some (.v (.int m)), x5, x6, x7, x8, x9, x10, none, some lap, some (.v (.int k)), none] st = .ok (.v (encE v)) st' ∧ okE w v = true ∧ penR q tl st') {q : Nat} {st : Sto} (h : penR (n * c + q) tl st) :
    ∃ l st', eFn bTuple (esCons (eLc (itRng1 (eVar 3)) (.slot 13) [11, 13] PV.tYes x) esNil) O [some s, some (.cel 0), x2, some (.v (.int n)), some (.v (.int m)), x5, x6, x7, x8, x9, x10, none, some lap, none, none] st = .ok (.v (encL l)) st' ∧ okL n w l ∧ penR q tl st' := by
  obtain ⟨ys, st', k1, k2, k3, k4⟩ := eLc_left (it := itRng1 (eVar 3)) (tg := .slot 13) (own := [11, 13]) (x := x) (O := O) (env := [some s, some (.cel 0), x2, some (.v (.int n)), some (.v (.int m)), x5, x6, x7, x8, x9, x10, none, some lap, none, none]) (st0 := st) (st := st) (fun j st => penR (j * c + q) tl st) (List.range n) (fun (k : Nat) => A.int k) (fun _ y => ∃ v, okE w v = true ∧ y = encE v) (itRng_ok (n := n) rfl (by omega)) rfl (by rw [List.length_range]; exact h) (by
    intro k _ j st hj
    obtain ⟨v, st', e1, e2, e3⟩ := hx k (j * c + q) st (by rw [show c + (j * c + q) = (j + 1) * c + q by rw [Nat.add_mul]; omega]; exact hj)
    exact ⟨_, _, st', rfl, e1, rfl, e3, v, e2, rfl⟩)
  have go : ∀ ys : List A, (∀ y ∈ ys, ∃ v, okE w v = true ∧ y = encE v) → ∃ l : Line, ys = l.map encE ∧ l.all (okE w) = true := by
    intro ys
    induction ys with
    | nil => intro _; exact ⟨[], rfl, rfl⟩
    | cons y ys ih =>
      intro hy
      obtain ⟨v, h1, rfl⟩ := hy y List.mem_cons_self
      obtain ⟨l, rfl, h2⟩ := ih fun z hz => hy z (List.mem_cons_of_mem _ hz)
      exact ⟨v :: l, rfl, by simp [h1, h2]⟩
  obtain ⟨l, rfl, hl⟩ := go ys fun y hy => by obtain ⟨_, _, q⟩ := k4 y hy; exact q
  refine ⟨l, st', ?_, ⟨by simpa using k3, hl⟩, by simpa using k2⟩
  rw [eFn_eq, esCons_eq, k1]
  rfl
/-- so many drawn lines -/
theorem rowsE (hT : LawT T ck sub c1 c2 c3 c4) {w : Bool} {s : PV.W} {x2 : Option PV.W} {n : Nat} {m : Int} {x5 x6 x7 x8 x9 x10 : Option PV.W} (hn : n ≤ 1000) {x : Ex} {c M : Nat} {Mi : Int} (hM : Mi = M) (hM1 : 1 ≤ M) (hM2 : M ≤ 1000) {tl : Sto}
    (hx : ∀ (lap : PV.W) (k q : Nat) (st : Sto), penR (c + q) tl st → ∃ v st', x (run T (d + 1)) [some s, some (.cel 0), x2, some (.v (.int n)), some (.v (.int m)), x5, x6, x7, x8, x9, x10, none, some lap, some (.v (.int k)), none] st = .ok (.v (encE v)) st' ∧ okE w v = true ∧ penR q tl st') {q : Nat} {st : Sto} (h : penR (1 + (M * (n * c) + q)) tl st) :
    ∃ ls st', eLc (itRng1 (eCall 23 (esDef (esCons (eVar 1) (esCons (eCon (.int Mi)) esNil)) []))) (.slot 12) [11, 12] PV.tYes (eFn bTuple (esCons (eLc (itRng1 (eVar 3)) (.slot 13) [11, 13] PV.tYes x) esNil)) (run T (d + 1)) (E15 s x2 n m x5 x6 x7 x8 x9 x10) st = .ok (.v (encLs ls)) st' ∧ (∀ l ∈ ls, okL n w l) ∧ ls.length < M ∧ penR q tl st' := by
  subst hM
  obtain ⟨r, st1, e, e1, e2, e3⟩ := draw0 (d := d) hT.p (k := M * (n * c) + q) (tl := tl) (st := st) (by rw [Nat.add_comm]; exact h) (many := M) (by omega) (by omega)
  obtain ⟨j, rfl⟩ : ∃ j : Nat, r = j := ⟨r.toNat, by omega⟩
  have hj : j < M := by omega
  have hle : j * (n * c) + q ≤ M * (n * c) + q := Nat.add_le_add_right (Nat.mul_le_mul_right _ (Nat.le_of_lt hj)) _
  have hit : itRng1 (eCall 23 (esDef (esCons (eVar 1) (esCons (eCon (.int (M : Nat))) esNil)) [])) (run T (d + 1)) (E15 s x2 n m x5 x6 x7 x8 x9 x10) st = .ok ((List.range j).map fun (k : Nat) => A.int k, fun _ => true) st1 := by
    refine itRng_ok (n := j) ?_ (by omega)
    rw [eCall_eq, esDef_eq, esCons_eq]
    exact e
  obtain ⟨ys, st2, k1, k2, k3, k4⟩ := eLc_left (it := itRng1 (eCall 23 (esDef (esCons (eVar 1) (esCons (eCon (.int (M : Nat))) esNil)) []))) (tg := .slot 12) (own := [11, 12]) (x := eFn bTuple (esCons (eLc (itRng1 (eVar 3)) (.slot 13) [11, 13] PV.tYes x) esNil)) (O := run T (d + 1)) (env := E15 s x2 n m x5 x6 x7 x8 x9 x10) (st0 := st) (st := st1) (fun i st => penR (i * (n * c) + q) tl st) (List.range j) (fun (k : Nat) => A.int k) (fun _ y => ∃ l, okL n w l ∧ y = encL l) hit rfl (by rw [List.length_range]; exact e3.mono hle) (by
    intro k _ i st hi
    obtain ⟨l, st', e1, e2, e3⟩ := rowE (w := w) (O := run T (d + 1)) (s := s) (x2 := x2) (n := n) (m := m) (x5 := x5) (x6 := x6) (x7 := x7) (x8 := x8) (x9 := x9) (x10 := x10) (lap := .v (.int k)) hn (x := x) (c := c) (tl := tl) (hx (.v (.int k))) (q := i * (n * c) + q) (st := st) (by rw [show n * c + (i * (n * c) + q) = (i + 1) * (n * c) + q by rw [Nat.add_mul]; omega]; exact hi)
    exact ⟨_, _, st', rfl, e1, rfl, e3, l, e2, rfl⟩)
  have go : ∀ ys : List A, (∀ y ∈ ys, ∃ l, okL n w l ∧ y = encL l) → ∃ ls : List Line, ys = ls.map encL ∧ ∀ l ∈ ls, okL n w l := by
    intro ys
    induction ys with
    | nil => intro _; exact ⟨[], rfl, fun _ h => nomatch h⟩
    | cons y ys ih =>
      intro hy
      obtain ⟨v, h1, rfl⟩ := hy y List.mem_cons_self
      obtain ⟨l, rfl, h2⟩ := ih fun z hz => hy z (List.mem_cons_of_mem _ hz)
      exact ⟨v :: l, rfl, fun z hz => (List.mem_cons.mp hz).elim (fun e => e ▸ h1) (h2 z)⟩
  obtain ⟨ls, rfl, hls⟩ := go ys fun y hy => by obtain ⟨_, _, q⟩ := k4 y hy; exact q
  refine ⟨ls, st2, k1, hls, ?_, by simpa using k2⟩
  rw [List.length_map, List.length_range] at k3
  omega
/-! ### a turn, statement by statement -/
theorem s1_ok (hT : LawT T ck sub c1 c2 c3 c4) {s : PV.W} {x2 x3 x4 x5 x6 x7 x8 x9 x10 : Option PV.W} {tl st : Sto} {q : Nat} (h : penR (2 + q) tl st) :
    ∃ (n : Nat) (m : Int) (st' : Sto), (sPar 3 4 (eCall 24 (esDef (esCons (eVar 1) (esCons (eLst (esCons (eCon (.int 1)) (esCons (eCon (.int 2)) (esCons (eCon (.int 2)) (esCons (eCon (.int 3)) (esCons (eCon (.int 3)) (esCons (eCon (.int 4)) esNil))))))) esNil)) [])) (eCall 24 (esDef (esCons (eVar 1) (esCons (eLst (esCons (eCon (.int 1)) (esCons (eCon (.int 2)) (esCons (eCon (.int 3)) (esCons (eCon (.int 4)) (esCons (eCon (.int 6)) esNil)))))) esNil)) []))) (run T (d + 2)) [some s, some (.cel 0), x2, x3, x4, x5, x6, x7, x8, x9, x10, none, none, none, none] st =
      .nx (E15 s x2 n m x5 x6 x7 x8 x9 x10) st' ∧ 1 ≤ n ∧ n ≤ 4 ∧ 0 ≤ m ∧ m ≤ 6 ∧ penR q tl st' := by
  have l1 : ∀ (O : Orc) (e : Env) (st : Sto), (eLst (esCons (eCon (.int 1)) (esCons (eCon (.int 2)) (esCons (eCon (.int 2)) (esCons (eCon (.int 3)) (esCons (eCon (.int 3)) (esCons (eCon (.int 4)) esNil))))))) O e st = .ok (.v (.lst [.int 1, .int 2, .int 2, .int 3, .int 3, .int 4])) st := fun O e st => by
    simp only [eLst_eq, esCons_eq, eCon_eq, esNil_eq, bind_ok]
    exact disp_ok rfl (Nat.le_of_ble_eq_true rfl)
  have l2 : ∀ (O : Orc) (e : Env) (st : Sto), (eLst (esCons (eCon (.int 1)) (esCons (eCon (.int 2)) (esCons (eCon (.int 3)) (esCons (eCon (.int 4)) (esCons (eCon (.int 6)) esNil)))))) O e st = .ok (.v (.lst [.int 1, .int 2, .int 3, .int 4, .int 6])) st := fun O e st => by
    simp only [eLst_eq, esCons_eq, eCon_eq, esNil_eq, bind_ok]
    exact disp_ok rfl (Nat.le_of_ble_eq_true rfl)
  obtain ⟨a1, st1, e1, m1, p1⟩ := pick0 (d := d) hT.p hT.t24 (k := 1 + q) (tl := tl) (st := st) (by rw [show 1 + q + 1 = 2 + q by omega]; exact h) (x := .lst [.int 1, .int 2, .int 2, .int 3, .int 3, .int 4]) (l := [.int 1, .int 2, .int 2, .int 3, .int 3, .int 4]) (.inl rfl) (by simp) (by simp)
  obtain ⟨a2, st2, e2, m2, p2⟩ := pick0 (d := d) hT.p hT.t24 (k := q) (tl := tl) (st := st1) (by rw [show q + 1 = 1 + q by omega]; exact p1) (x := .lst [.int 1, .int 2, .int 3, .int 4, .int 6]) (l := [.int 1, .int 2, .int 3, .int 4, .int 6]) (.inl rfl) (by simp) (by simp)
  have h1 : ∃ n : Nat, a1 = .int n ∧ 1 ≤ n ∧ n ≤ 4 := by
    simp at m1
    rcases m1 with rfl | rfl | rfl | rfl
    · exact ⟨1, rfl, by omega, by omega⟩
    · exact ⟨2, rfl, by omega, by omega⟩
    · exact ⟨3, rfl, by omega, by omega⟩
    · exact ⟨4, rfl, by omega, by omega⟩
  have h2 : ∃ m : Int, a2 = .int m ∧ 0 ≤ m ∧ m ≤ 6 := by
    simp at m2
    rcases m2 with rfl | rfl | rfl | rfl | rfl
    · exact ⟨1, rfl, by omega, by omega⟩
    · exact ⟨2, rfl, by omega, by omega⟩
    · exact ⟨3, rfl, by omega, by omega⟩
    · exact ⟨4, rfl, by omega, by omega⟩
    · exact ⟨6, rfl, by omega, by omega⟩
  obtain ⟨n, rfl, n1, n2⟩ := h1
  obtain ⟨m, rfl, m1, m2⟩ := h2
  refine ⟨n, m, st2, ?_, n1, n2, m1, m2, p2⟩
  rw [sPar_eq, eCall_eq, esDef_eq, esCons_eq, eVar_eq]
  simp only [List.getElem?_cons_zero, List.getElem?_cons_succ, bind_ok]
  rw [esCons_eq, l1]
  simp only [bind_ok, esNil_eq, List.map_nil, List.append_nil]
  rw [e1, to_ok, eCall_eq, esDef_eq, esCons_eq, eVar_eq]
  simp only [List.getElem?_cons_zero, List.getElem?_cons_succ, bind_ok]
  rw [esCons_eq, l2]
  simp only [bind_ok, esNil_eq, List.map_nil, List.append_nil]
  rw [e2, to_ok]
  rfl
theorem encLs_pairs (b : Bool) (ls : List Line) : (ls.map fun l => (b, l)).map (·.2) = ls := by
  rw [List.map_map]
  exact (List.map_congr_left fun _ _ => rfl).trans (List.map_id _)
theorem isRs_lst (ls : List Line) : IsRs (encLs ls) (ls.map fun l => (false, l)) := .inl (by rw [List.map_map]; rfl)
theorem isRs_tup (ls : List Line) : IsRs (.tup (ls.map encL)) (ls.map fun l => (false, l)) := .inr (by rw [List.map_map]; rfl)
theorem isRs_rows (ls : List Line) : IsRs (.lst (ls.map fun l => .lst (l.map encE))) (ls.map fun l => (true, l)) := .inl (by rw [List.map_map]; rfl)
theorem outsideA (hT : LawT T ck sub c1 c2 c3 c4) {n : Nat} (h1 : 1 ≤ n) (h4 : n ≤ 4) {a : A} {b : Bool} {ls : List Line} (ha : IsRs a (ls.map fun l => (b, l))) (hl : ∀ l ∈ ls, okL n false l) (h60 : ls.length ≤ 60) (hf : (outA n ls).length ≤ 400) {st : Sto} (hs : plainSto st = true) :
    run T (d + 6) 20 [.v (.int n), .v a] st = .ok (.v (.tup ((ordL (outA n ls)).map encL))) st := by
  obtain ⟨k, rfl⟩ : ∃ k, n = k + 1 := ⟨n - 1, by omega⟩
  have := greatest_outside_ok (d := d) hT.c hT.l hT.a ha (n := k) (by omega) (by rw [List.length_map]; exact h60) (fun p hp => by obtain ⟨l, hl2, rfl⟩ := List.mem_map.mp hp; exact hl l hl2) (fun r hr => by
    rw [encLs_pairs] at hr
    exact many_outA h1 h4 (pre_ok hr hl) (Nat.le_trans hr.length_le h60)) (by rw [encLs_pairs]; exact hf) hs
  rw [encLs_pairs] at this
  exact this
theorem outsideB (hT : LawT T ck sub c1 c2 c3 c4) {n : Nat} (h1 : 1 ≤ n) (h4 : n ≤ 4) {a : A} {b : Bool} {ls : List Line} (ha : IsRs a (ls.map fun l => (b, l))) (hl : ∀ l ∈ ls, okL n true l) (h60 : ls.length ≤ 60) (hf : (outB n ls).length ≤ 400) {st : Sto} (hs : plainSto st = true) :
    run T (d + 5) 21 [.v (.int n), .v a] st = .ok (.v (.tup ((ordL (outB n ls)).map encL))) st := by
  obtain ⟨k, rfl⟩ : ∃ k, n = k + 1 := ⟨n - 1, by omega⟩
  have := least_outside_ok (d := d) hT.c hT.l hT.a ha (n := k) (by omega) (by rw [List.length_map]; exact h60) (fun p hp => by obtain ⟨l, hl2, rfl⟩ := List.mem_map.mp hp; exact hl l hl2) (fun r hr => by
    rw [encLs_pairs] at hr
    exact many_outB h1 h4 (pre_ok hr hl) (Nat.le_trans hr.length_le h60)) (by rw [encLs_pairs]; exact hf) hs
  rw [encLs_pairs] at this
  exact this
/-- the drawn lines, told -/
theorem s2_ok (hT : LawT T ck sub c1 c2 c3 c4) {s : PV.W} {x2 : Option PV.W} {n : Nat} {m : Int} {x5 x6 x7 x8 x9 x10 : Option PV.W} (hn : n ≤ 4) (hm : 0 ≤ m ∧ m ≤ 6) {q : Nat} {st : Sto} (h : penR (100 + q) [] st) :
    ∃ ls st', (sSet 5 (eLc (itRng1 (eCall 23 (esDef (esCons (eVar 1) (esCons (eCon (.int 7)) esNil)) []))) (.slot 12) [11, 12] PV.tYes (eFn bTuple (esCons (eLc (itRng1 (eVar 3)) (.slot 13) [11, 13] PV.tYes (eCall 23 (esDef (esCons (eVar 1) (esCons (eOp2 fAdd (eVar 4) (eCon (.int 1))) esNil)) []))) esNil)))) (run T (d + 1)) (E15 s x2 n m x5 x6 x7 x8 x9 x10) st =
      .nx (E15 s x2 n m (some (.v (encLs ls))) x6 x7 x8 x9 x10) st' ∧ (∀ l ∈ ls, okL n false l) ∧ ls.length < 7 ∧ penR q [] st' := by
  obtain ⟨ls, st', e1, e2, e3, e4⟩ := rowsE (d := d) hT (w := false) (s := s) (x2 := x2) (n := n) (m := m) (x5 := x5) (x6 := x6) (x7 := x7) (x8 := x8) (x9 := x9) (x10 := x10) (by omega) (x := eCall 23 (esDef (esCons (eVar 1) (esCons (eOp2 fAdd (eVar 4) (eCon (.int 1))) esNil)) [])) (c := 1) (M := 7) (Mi := 7) rfl (by omega) (by omega) (tl := []) (fun lap k q st hq => by
    obtain ⟨r, st', e, r1, r2, r3⟩ := draw0 (d := d) hT.p (k := q) (tl := []) (st := st) (by rw [Nat.add_comm]; exact hq) (many := m + 1) (by omega) (by omega)
    refine ⟨some r, st', ?_, by simpa [okE] using r1, r3⟩
    rw [eCall_eq, esDef_eq, esCons_eq]
    exact e) (q := q) (st := st) (h.mono (by omega))
  refine ⟨ls, st', ?_, e2, e3, e4⟩
  rw [sSet_eq, e1]
  rfl
theorem s8_ok (hT : LawT T ck sub c1 c2 c3 c4) {s : PV.W} {x2 : Option PV.W} {n : Nat} {m : Int} {x5 x6 x7 x8 x9 x10 : Option PV.W} (hn : n ≤ 4) (hm : 0 ≤ m ∧ m ≤ 6) {q : Nat} {st : Sto} (h : penR (100 + q) [] st) :
    ∃ ls st', (sSet 8 (eLc (itRng1 (eCall 23 (esDef (esCons (eVar 1) (esCons (eCon (.int 6)) esNil)) []))) (.slot 12) [11, 12] PV.tYes (eFn bTuple (esCons (eLc (itRng1 (eVar 3)) (.slot 13) [11, 13] PV.tYes (eIf (tEx (eOp2 fEq (eCall 23 (esDef (esCons (eVar 1) (esCons (eCon (.int 3)) esNil)) [])) (eCon (.int 0)))) (eCon .non) (eCall 23 (esDef (esCons (eVar 1) (esCons (eOp2 fAdd (eVar 4) (eCon (.int 1))) esNil)) [])))) esNil)))) (run T (d + 1)) (E15 s x2 n m x5 x6 x7 x8 x9 x10) st =
      .nx (E15 s x2 n m x5 x6 x7 (some (.v (encLs ls))) x9 x10) st' ∧ (∀ l ∈ ls, okL n true l) ∧ ls.length < 6 ∧ penR q [] st' := by
  obtain ⟨ls, st', e1, e2, e3, e4⟩ := rowsE (d := d) hT (w := true) (s := s) (x2 := x2) (n := n) (m := m) (x5 := x5) (x6 := x6) (x7 := x7) (x8 := x8) (x9 := x9) (x10 := x10) (by omega) (x := eIf (tEx (eOp2 fEq (eCall 23 (esDef (esCons (eVar 1) (esCons (eCon (.int 3)) esNil)) [])) (eCon (.int 0)))) (eCon .non) (eCall 23 (esDef (esCons (eVar 1) (esCons (eOp2 fAdd (eVar 4) (eCon (.int 1))) esNil)) []))) (c := 2) (M := 6) (Mi := 6) rfl (by omega) (by omega) (tl := []) (fun lap k q st hq => by
    obtain ⟨r, st1, e, r1, r2, r3⟩ := draw0 (d := d) hT.p (k := 1 + q) (tl := []) (st := st) (by rw [show 1 + q + 1 = 2 + q by omega]; exact hq) (many := 3) (by omega) (by omega)
    have e' : eCall 23 (esDef (esCons (eVar 1) (esCons (eCon (.int 3)) esNil)) []) (run T (d + 1)) [some s, some (.cel 0), x2, some (.v (.int n)), some (.v (.int m)), x5, x6, x7, x8, x9, x10, none, some lap, some (.v (.int k)), none] st = .ok (.v (.int r)) st1 := e
    by_cases h0 : r = 0
    · subst h0
      refine ⟨none, st1, ?_, rfl, r3.mono (by omega)⟩
      rw [eIf_eq, tEx_eq, eOp2_eq, e']
      rfl
    · obtain ⟨r', st2, e2, r1', r2', r3'⟩ := draw0 (d := d) hT.p (k := q) (tl := []) (st := st1) (by rw [show q + 1 = 1 + q by omega]; exact r3) (many := m + 1) (by omega) (by omega)
      refine ⟨some r', st2, ?_, by simpa [okE] using r1', r3'⟩
      have hne : (r == (0 : Int)) = false := by simpa using h0
      rw [eIf_eq, tEx_eq, eOp2_eq, e']
      simp only [bind_ok, eCon_eq, op2_v, fEq_int, hne, ofV_some, truthW_bl, Bool.false_eq_true, if_false]
      rw [eCall_eq, esDef_eq, esCons_eq]
      exact e2) (q := q) (st := st) (h.mono (by omega))
  refine ⟨ls, st', ?_, e2, e3, e4⟩
  rw [sSet_eq, e1]
  rfl
end
end K31
end PV
end
section
set_option linter.all false
set_option Elab.async false
set_option maxRecDepth 100000
/-! LK31c: the law of what lies outside of lines, a turn whole. -/
namespace PV
namespace K31
section
variable {T : Nat → Option FnD} {d : Nat} {c1 c2 c3 c4 : Int} {ck : Nat → Bool} {sub : Nat → Nat → Option Bool}
theorem len_sub {l m : List Line} (h : l.Nodup) (hs : ∀ x ∈ l, x ∈ m) : l.length ≤ m.length := List.Nodup.length_le_of_subset h hs
theorem backA {n : Nat} {ls : List Line} (hl : ∀ l ∈ ls, okL n false l) : (outB n (ordL (outA n ls))).length ≤ ls.length := by
  refine len_sub (invB_out _ (told_ok hl)).nd fun x hx => ?_
  have := dualA hl
  have h2 : x ∈ lAmong ls := by rw [← this]; exact mem_ordL.mpr hx
  exact (((lAmong_spec (Wide.of hl)).1 x).mp h2).1
theorem backB {n : Nat} {ls : List Line} (hl : ∀ l ∈ ls, okL n true l) : (outA n (ordL (outB n ls))).length ≤ ls.length := by
  refine len_sub (invA_out _ (low_ok hl)).nd fun x hx => ?_
  have := dualB hl
  have h2 : x ∈ gAmong ls := by rw [← this]; exact mem_ordL.mpr hx
  exact (((gAmong_spec (Wide.of hl)).1 x).mp h2).1
theorem len_lAmong {n : Nat} {ls : List Line} (hl : Wide n ls) : (lAmong ls).length ≤ ls.length :=
  len_sub (lAmong_spec hl).2.2.1 fun x hx => (((lAmong_spec hl).1 x).mp hx).1
theorem len_gAmong {n : Nat} {ls : List Line} (hl : Wide n ls) : (gAmong ls).length ≤ ls.length :=
  len_sub (gAmong_spec hl).2.2.1 fun x hx => (((gAmong_spec hl).1 x).mp hx).1
theorem lLaw_self {n : Nat} {ls : List Line} (hl : Wide n ls) : lLaw (lAmong ls) = (lAmong ls).mergeSort leL := by
  obtain ⟨g1, g2, g3⟩ := lAmong_spec hl
  have hw : Wide n (lAmong ls) := fun l h => hl l ((g1 l).mp h).1
  rw [lLaw_eq hw, lAmong_anti hw (fun y hy z hz h => ((g1 z).mp hz).2 y ((g1 y).mp hy).1 h) g3, g3.sort]
theorem gLaw_self {n : Nat} {ls : List Line} (hl : Wide n ls) : gLaw (gAmong ls) = (gAmong ls).mergeSort leL := by
  obtain ⟨g1, g2, g3⟩ := gAmong_spec hl
  have hw : Wide n (gAmong ls) := fun l h => hl l ((g1 l).mp h).1
  rw [gLaw_eq hw, gAmong_anti hw (fun y hy z hz h => (((g1 y).mp hy).2 z ((g1 z).mp hz).1 h).symm) g3, g3.sort]
theorem gLaw_out {n : Nat} {ls : List Line} (hl : ∀ l ∈ ls, okL n false l) : gLaw (ordL (outA n ls)) = (ordL (outA n ls)).mergeSort leL := by
  have hw := Wide.of (told_ok hl)
  rw [gLaw_eq hw, gAmong_anti hw (fun y hy z hz h => (invA_out ls hl).anti y (mem_ordL.mp hy) z (mem_ordL.mp hz) h) (asc_ordL _), (asc_ordL _).sort]
theorem lLaw_out {n : Nat} {ls : List Line} (hl : ∀ l ∈ ls, okL n true l) : lLaw (ordL (outB n ls)) = (ordL (outB n ls)).mergeSort leL := by
  have hw := Wide.of (low_ok hl)
  rw [lLaw_eq hw, lAmong_anti hw (fun y hy z hz h => (invB_out ls hl).anti y (mem_ordL.mp hy) z (mem_ordL.mp hz) h) (asc_ordL _), (asc_ordL _).sort]
/-- the first If's test -/
def chkA : Te := PV.tOr (tEx (eOp2 fNe (eFn bListD (esCons (eVar 7) esNil)) (eCall 27 (esDef (esCons (eVar 7) esNil) [])))) (PV.tOr (PV.tNot (tEx (eCall 31 (esDef (esCons (eVar 1) (esCons (eVar 3) (esCons (eVar 6) (esCons (eVar 7) esNil)))) [])))) (tEx (eOp2 fNe (eCall 21 (esDef (esCons (eVar 3) (esCons (eVar 7) esNil)) [])) (eFn bTuple (esCons (eVar 6) esNil)))))
def chkB : Te := PV.tOr (tEx (eOp2 fNe (eFn bListD (esCons (eVar 10) esNil)) (eFn bSortedC (esCons (eVar 10) esNil)))) (PV.tOr (PV.tNot (tEx (eCall 31 (esDef (esCons (eVar 1) (esCons (eVar 3) (esCons (eVar 10) (esCons (eVar 9) esNil)))) [])))) (tEx (eOp2 fNe (eCallK 20 [1, 0] esNil (esCons (eVar 10) (esCons (eVar 3) esNil))) (eFn bTuple (esCons (eVar 9) esNil)))))
theorem bListD_tup (l : List A) : bListD [.tup l] = some (.lst l) := rfl
theorem bTuple_lst (l : List A) : bTuple [.lst l] = some (.tup l) := rfl
theorem chkA_ok (hT : LawT T ck sub c1 c2 c3 c4) {s : PV.W} {x2 : Option PV.W} {n : Nat} {m : Int} {x5 x8 x9 x10 : Option PV.W} (h1 : 1 ≤ n) (h4 : n ≤ 4) {ls : List Line} (hl : ∀ l ∈ ls, okL n false l) (h6 : ls.length ≤ 6) {q : Nat} {st : Sto} (h : penR (900 * n + q) [] st) :
    ∃ st', chkA (run T (d + 6)) (E15 s x2 n m x5 (some (.v (encLs (lAmong ls)))) (some (.v (.tup ((ordL (outA n ls)).map encL)))) x8 x9 x10) st = .ok false st' ∧ penR q [] st' := by
  have wl := Wide.of hl
  have ht := told_ok hl
  have wt := Wide.of ht
  have f1 := few_outA h1 h4 hl h6
  have f2 : (ordL (outA n ls)).length ≤ 49 := Nat.le_trans (len_ordL _) f1
  have f3 := len_lAmong wl
  have okl : ∀ l ∈ lAmong ls, okL n false l := fun l h => hl l (((lAmong_spec wl).1 l).mp h).1
  have k1 := sorted_ok (d := d + 4) hT.o (a := .tup ((ordL (outA n ls)).map encL)) (ls := ordL (outA n ls)) (.inr rfl) (fun l h => by rw [wt l h]; omega) st
  rw [(asc_ordL _).sort] at k1
  obtain ⟨st2, k2, p2⟩ := parted_ok (d := d + 2) hT.p hT.o hT.t24 hT.t30 hT.t31 h4 (a := encLs (lAmong ls)) (b := .tup ((ordL (outA n ls)).map encL)) (.inl rfl) (.inr rfl) okl ht (by omega) (fun x hx => partA hl hx) (lLaw_self wl) (gLaw_out hl) (tl := []) rfl h
  have k3 := outsideB (d := d + 1) hT h1 h4 (isRs_tup (ordL (outA n ls))) ht (by omega) (Nat.le_trans (backA hl) (by omega)) (p2.plain rfl)
  rw [dualA hl] at k3
  refine ⟨st2, ?_, p2⟩
  unfold chkA
  rw [tOr_eq, tEx_eq]
  simp only [eOp2_eq, eFn_eq, eCall_eq, esDef_eq, esCons_eq, esNil_eq, eVar_eq, List.getElem?_cons_zero, List.getElem?_cons_succ, bind_ok, List.map_nil, List.append_nil, opL_1, bListD_tup, ofV_some]
  rw [k1]
  have e1 : fNe (.lst ((ordL (outA n ls)).map encL)) (encLs (ordL (outA n ls))) = some (.bl false) := by
    have := fNe_encLs (ordL (outA n ls)) (ordL (outA n ls))
    simpa [encLs] using this
  simp only [bind_ok, op2_v, e1, ofV_some, truthW_bl, Bool.false_eq_true, if_false]
  rw [tOr_eq, tNot_eq, tEx_eq]
  simp only [eCall_eq, esDef_eq, esCons_eq, esNil_eq, eVar_eq, List.getElem?_cons_zero, List.getElem?_cons_succ, bind_ok, List.map_nil, List.append_nil]
  rw [k2]
  simp only [bind_ok, truthW_bl, Bool.not_true, Bool.false_eq_true, if_false]
  rw [tEx_eq]
  simp only [eOp2_eq, eFn_eq, eCall_eq, esDef_eq, esCons_eq, esNil_eq, eVar_eq, List.getElem?_cons_zero, List.getElem?_cons_succ, bind_ok, List.map_nil, List.append_nil]
  rw [k3]
  have e2 : fNe (.tup ((lAmong ls).map encL)) (.tup ((lAmong ls).map encL)) = some (.bl false) := by
    have := fNe_tups (lAmong ls) (lAmong ls)
    simpa using this
  simp only [bind_ok, opL_1, encLs, bTuple_lst, ofV_some, op2_v, e2, truthW_bl]
theorem chkB_ok (hT : LawT T ck sub c1 c2 c3 c4) {s : PV.W} {x2 : Option PV.W} {n : Nat} {m : Int} {x5 x6 x7 x8 : Option PV.W} (h1 : 1 ≤ n) (h4 : n ≤ 4) {ls : List Line} (hl : ∀ l ∈ ls, okL n true l) (h6 : ls.length ≤ 6) {q : Nat} {st : Sto} (h : penR (900 * n + q) [] st) :
    ∃ st', chkB (run T (d + 6)) (E15 s x2 n m x5 x6 x7 x8 (some (.v (encLs (gAmong ls)))) (some (.v (.tup ((ordL (outB n ls)).map encL))))) st = .ok false st' ∧ penR q [] st' := by
  have wl := Wide.of hl
  have ht := low_ok hl
  have wt := Wide.of ht
  have f1 := few_outB h1 h4 hl h6
  have f2 : (ordL (outB n ls)).length ≤ 49 := Nat.le_trans (len_ordL _) f1
  have f3 := len_gAmong wl
  have okl : ∀ l ∈ gAmong ls, okL n true l := fun l h => hl l (((gAmong_spec wl).1 l).mp h).1
  have k1 := sortedC_lines h1 ht (asc_ordL _)
  obtain ⟨st2, k2, p2⟩ := parted_ok (d := d + 2) hT.p hT.o hT.t24 hT.t30 hT.t31 h4 (a := .tup ((ordL (outB n ls)).map encL)) (b := encLs (gAmong ls)) (.inr rfl) (.inl rfl) ht okl (by omega) (fun x hx => PV.partB hl hx) (lLaw_out hl) (gLaw_self wl) (tl := []) rfl h
  have k3 := outsideA (d := d) hT h1 h4 (isRs_tup (ordL (outB n ls))) ht (by omega) (Nat.le_trans (backB hl) (by omega)) (p2.plain rfl)
  rw [dualB hl] at k3
  refine ⟨st2, ?_, p2⟩
  unfold chkB
  rw [tOr_eq, tEx_eq]
  have e1 : fNe (.lst ((ordL (outB n ls)).map encL)) (encLs (ordL (outB n ls))) = some (.bl false) := by
    have := fNe_encLs (ordL (outB n ls)) (ordL (outB n ls))
    simpa [encLs] using this
  simp only [eOp2_eq, eFn_eq, esCons_eq, esNil_eq, eVar_eq, List.getElem?_cons_zero, List.getElem?_cons_succ, bind_ok, opL_1, bListD_tup, ofV_some, k1, op2_v, e1, truthW_bl, Bool.false_eq_true, if_false]
  rw [tOr_eq, tNot_eq, tEx_eq]
  simp only [eCall_eq, esDef_eq, esCons_eq, esNil_eq, eVar_eq, List.getElem?_cons_zero, List.getElem?_cons_succ, bind_ok, List.map_nil, List.append_nil]
  rw [k2]
  simp only [bind_ok, truthW_bl, Bool.not_true, Bool.false_eq_true, if_false]
  rw [tEx_eq]
  simp only [eOp2_eq, eFn_eq, eCallK_eq, esCons_eq, esNil_eq, eVar_eq, List.getElem?_cons_zero, List.getElem?_cons_succ, bind_ok]
  rw [show selF [1, 0] (([] : List PV.W) ++ [.v (.tup ((ordL (outB n ls)).map encL)), .v (.int n)]) = [.v (.int n), .v (.tup ((ordL (outB n ls)).map encL))] from rfl, k3]
  have e2 : fNe (.tup ((gAmong ls).map encL)) (.tup ((gAmong ls).map encL)) = some (.bl false) := by
    have := fNe_tups (gAmong ls) (gAmong ls)
    simpa using this
  simp only [bind_ok, opL_1, encLs, bTuple_lst, ofV_some, op2_v, e2, truthW_bl]
end
end K31
end PV
end
section
set_option linter.all false
set_option Elab.async false
set_option maxRecDepth 100000
/-! LK31d: the law of what lies outside of lines, whole. -/
namespace PV
namespace K31
def turnB : Stm := (sSeq (sPar 3 4 (eCall 24 (esDef (esCons (eVar 1) (esCons (eLst (esCons (eCon (.int 1)) (esCons (eCon (.int 2)) (esCons (eCon (.int 2)) (esCons (eCon (.int 3)) (esCons (eCon (.int 3)) (esCons (eCon (.int 4)) esNil))))))) esNil)) [])) (eCall 24 (esDef (esCons (eVar 1) (esCons (eLst (esCons (eCon (.int 1)) (esCons (eCon (.int 2)) (esCons (eCon (.int 3)) (esCons (eCon (.int 4)) (esCons (eCon (.int 6)) esNil)))))) esNil)) []))) (sSeq (sSet 5 (eLc (itRng1 (eCall 23 (esDef (esCons (eVar 1) (esCons (eCon (.int 7)) esNil)) []))) (.slot 12) [11, 12] PV.tYes (eFn bTuple (esCons (eLc (itRng1 (eVar 3)) (.slot 13) [11, 13] PV.tYes (eCall 23 (esDef (esCons (eVar 1) (esCons (eOp2 fAdd (eVar 4) (eCon (.int 1))) esNil)) []))) esNil)))) (sSeq (sSet 6 (eCall 28 (esDef (esCons (eVar 5) esNil) []))) (sSeq (sSet 7 (eCall 20 (esDef (esCons (eVar 3) (esCons (eVar 5) esNil)) []))) (sSeq (sIf chkA (sSeq (sRet (eCon (.bl false))) sNil) sNil) (sSeq (sSet 8 (eLc (itRng1 (eCall 23 (esDef (esCons (eVar 1) (esCons (eCon (.int 6)) esNil)) []))) (.slot 12) [11, 12] PV.tYes (eFn bTuple (esCons (eLc (itRng1 (eVar 3)) (.slot 13) [11, 13] PV.tYes (eIf (tEx (eOp2 fEq (eCall 23 (esDef (esCons (eVar 1) (esCons (eCon (.int 3)) esNil)) [])) (eCon (.int 0)))) (eCon .non) (eCall 23 (esDef (esCons (eVar 1) (esCons (eOp2 fAdd (eVar 4) (eCon (.int 1))) esNil)) [])))) esNil)))) (sSeq (sSet 9 (eCall 29 (esDef (esCons (eVar 8) esNil) []))) (sSeq (sSet 10 (eCallK 21 [0, 1] esNil (esCons (eVar 3) (esCons (eLc (itSeq (eVar 8)) (.slot 14) [11, 14] PV.tYes (eFn bListD (esCons (eVar 14) esNil))) esNil)))) (sSeq (sIf chkB (sSeq (sRet (eCon (.bl false))) sNil) sNil) sNil)))))))))
def lastT : Te := (PV.tOr (tEx (eOp2 fNe (eCall 20 (esDef (esCons (eCon (.int 3)) (esCons (eLst esNil) esNil)) [])) (eTup (esCons (eOp2 fMul (eTup (esCons (eCon .non) esNil)) (eCon (.int 3))) esNil)))) (PV.tOr (tEx (eOp2 fNe (eCall 20 (esDef (esCons (eCon (.int 2)) (esCons (eLst (esCons (eTup (esCons (eCon (.int 0)) (esCons (eCon (.int 0)) esNil))) (esCons (eTup (esCons (eCon (.int 1)) (esCons (eCon (.int 5)) esNil))) esNil))) esNil)) [])) (eTup esNil))) (tEx (eOp2 fNe (eCall 21 (esDef (esCons (eCon (.int 2)) (esCons (eLst esNil) esNil)) [])) (eTup (esCons (eTup (esCons (eCon (.int 0)) (esCons (eCon (.int 0)) esNil))) esNil))))))
def lastX : Ex := (eAnd (eOp2 fEq (eCall 21 (esDef (esCons (eCon (.int 2)) (esCons (eLst (esCons (eTup (esCons (eCon .non) (esCons (eCon .non) esNil))) (esCons (eTup (esCons (eCon (.int 0)) (esCons (eCon (.int 1)) esNil))) esNil))) esNil)) [])) (eTup esNil)) (eOp2 fEq (eCall 21 (esDef (esCons (eCon (.int 1)) (esCons (eLst (esCons (eTup (esCons (eOp2 fPow (eCon (.int 10)) (eCon (.int 30))) esNil)) esNil)) esNil)) [])) (eTup (esCons (eTup (esCons (eOp2 fAdd (eOp2 fPow (eCon (.int 10)) (eCon (.int 30))) (eCon (.int 1))) esNil)) esNil))))
def lawB : Stm := (sSeq (sSet 1 (eCall 22 (esDef (esCons (eVar 0) esNil) []))) (sSeq (sFor (itRng1 (eCon (.int 8))) (.slot 2) turnB) (sSeq (sIf lastT (sSeq (sRet (eCon (.bl false))) sNil) sNil) (sSeq (sRet lastX) sNil))))
theorem lawB_eq : b_law = lawB := rfl
section
variable {T : Nat → Option FnD} {d : Nat} {c1 c2 c3 c4 : Int} {ck : Nat → Bool} {sub : Nat → Nat → Option Bool}
theorem rows_env {s : PV.W} {x2 : Option PV.W} {n : Nat} {m : Int} {x5 x6 x7 x9 x10 : Option PV.W} {ls : List Line} (hl : ∀ l ∈ ls, l.length ≤ Sz) (h6 : ls.length ≤ 6) (O : Orc) (st : Sto) :
    eLc (itSeq (eVar 8)) (.slot 14) [11, 14] PV.tYes (eFn bListD (esCons (eVar 14) esNil)) O (E15 s x2 n m x5 x6 x7 (some (.v (encLs ls))) x9 x10) st = .ok (.v (.lst (ls.map fun l => .lst (l.map encE)))) st := by
  refine eLc_yes (ok := fun _ => true) ls encL (fun l => A.lst (l.map encE)) ?_ rfl fun l _ => ⟨_, rfl, ?_⟩
  · exact itSeq_lst rfl (by rw [List.length_map]; exact sz60 (by omega))
  · rw [eFn_eq, esCons_eq]
    rfl
/-- a turn -/
theorem turn_ok (hT : LawT T ck sub c1 c2 c3 c4) {s : PV.W} {x2 x3 x4 x5 x6 x7 x8 x9 x10 : Option PV.W} {q : Nat} {st : Sto} (h : penR (7402 + q) [] st) :
    ∃ y3 y4 y5 y6 y7 y8 y9 y10 st', turnB (run T (d + 6)) [some s, some (.cel 0), x2, x3, x4, x5, x6, x7, x8, x9, x10, none, none, none, none] st =
      .nx [some s, some (.cel 0), x2, y3, y4, y5, y6, y7, y8, y9, y10, none, none, none, none] st' ∧ penR q [] st' := by
  obtain ⟨n, m, st1, a1, n1, n4, m0, m6, p1⟩ := s1_ok (d := d + 4) hT (s := s) (x2 := x2) (x3 := x3) (x4 := x4) (x5 := x5) (x6 := x6) (x7 := x7) (x8 := x8) (x9 := x9) (x10 := x10) (tl := []) (st := st) (q := 7400 + q) (h.mono (by omega))
  obtain ⟨ls, st2, a2, l2, n2, p2⟩ := s2_ok (d := d + 5) hT (s := s) (x2 := x2) (x5 := x5) (x6 := x6) (x7 := x7) (x8 := x8) (x9 := x9) (x10 := x10) n4 ⟨m0, m6⟩ (q := 900 * n + (100 + (900 * n + q))) (st := st1) (p1.mono (by omega))
  have wl := Wide.of l2
  have a3 := least_ok (d := d + 3) hT.o (a := encLs ls) (ls := ls) (.inl rfl) (sz60 (by omega)) (fun l hl => by rw [wl l hl]; omega) st2
  rw [lLaw_eq wl] at a3
  have f4 := few_outA n1 n4 l2 (by omega)
  have a4 := outsideA (d := d) hT n1 n4 (isRs_lst ls) l2 (by omega) (by omega) (p2.plain rfl)
  obtain ⟨st3, a5, p3⟩ := chkA_ok (d := d) hT (s := s) (x2 := x2) (m := m) (x5 := some (.v (encLs ls))) (x8 := x8) (x9 := x9) (x10 := x10) n1 n4 l2 (by omega) p2
  obtain ⟨gs, st4, a6, l6, n6, p4⟩ := s8_ok (d := d + 5) hT (s := s) (x2 := x2) (x5 := some (.v (encLs ls))) (x6 := some (.v (encLs (lAmong ls)))) (x7 := some (.v (.tup ((ordL (outA n ls)).map encL)))) (x8 := x8) (x9 := x9) (x10 := x10) n4 ⟨m0, m6⟩ (q := 900 * n + q) (st := st3) p3
  have wg := Wide.of l6
  have a7 := greatest_ok (d := d + 3) hT.o (a := encLs gs) (ls := gs) (.inl rfl) (sz60 (by omega)) (fun l hl => by rw [wg l hl]; omega) st4
  rw [gLaw_eq wg] at a7
  have f8 := few_outB n1 n4 l6 (by omega)
  have a8 := outsideB (d := d + 1) hT n1 n4 (isRs_rows gs) l6 (by omega) (by omega) (p4.plain rfl)
  have a9 := rows_env (s := s) (x2 := x2) (n := n) (m := m) (x5 := some (.v (encLs ls))) (x6 := some (.v (encLs (lAmong ls)))) (x7 := some (.v (.tup ((ordL (outA n ls)).map encL)))) (x9 := some (.v (encLs (gAmong gs)))) (x10 := x10) (ls := gs) (fun l hl => by rw [wg l hl]; exact sz60 (by omega)) (by omega) (run T (d + 6)) st4
  obtain ⟨st5, a10, p5⟩ := chkB_ok (d := d) hT (s := s) (x2 := x2) (m := m) (x5 := some (.v (encLs ls))) (x6 := some (.v (encLs (lAmong ls)))) (x7 := some (.v (.tup ((ordL (outA n ls)).map encL)))) (x8 := some (.v (encLs gs))) n1 n4 l6 (by omega) p4
  refine ⟨some (.v (.int n)), some (.v (.int m)), some (.v (encLs ls)), some (.v (encLs (lAmong ls))), some (.v (.tup ((ordL (outA n ls)).map encL))), some (.v (encLs gs)), some (.v (encLs (gAmong gs))), some (.v (.tup ((ordL (outB n gs)).map encL))), st5, ?_, p5⟩
  unfold turnB
  rw [sSeq_eq, a1]
  rw [seq_nx, sSeq_eq, a2]
  rw [seq_nx, sSeq_eq, sSet_eq]
  simp only [eCall_eq, esDef_eq, esCons_eq, esNil_eq, eVar_eq, List.getElem?_cons_zero, List.getElem?_cons_succ, bind_ok, List.map_nil, List.append_nil]
  rw [a3, to_ok]
  simp only [List.set]
  rw [seq_nx, sSeq_eq, sSet_eq]
  simp only [eCall_eq, esDef_eq, esCons_eq, esNil_eq, eVar_eq, List.getElem?_cons_zero, List.getElem?_cons_succ, bind_ok, List.map_nil, List.append_nil]
  rw [a4, to_ok]
  simp only [List.set]
  rw [seq_nx, sSeq_eq, sIf_eq, a5, to_ok]
  simp only [Bool.false_eq_true, if_false, sNil_eq]
  rw [seq_nx, sSeq_eq, a6]
  rw [seq_nx, sSeq_eq, sSet_eq]
  simp only [eCall_eq, esDef_eq, esCons_eq, esNil_eq, eVar_eq, List.getElem?_cons_zero, List.getElem?_cons_succ, bind_ok, List.map_nil, List.append_nil]
  rw [a7, to_ok]
  simp only [List.set]
  rw [seq_nx, sSeq_eq, sSet_eq, eCallK_eq, esNil_eq, bind_ok, esCons_eq, eVar_eq]
  simp only [List.getElem?_cons_zero, List.getElem?_cons_succ, bind_ok]
  rw [esCons_eq, a9]
  simp only [bind_ok, esNil_eq]
  rw [show selF [0, 1] (([] : List PV.W) ++ [.v (.int n), .v (.lst (gs.map fun l => .lst (l.map encE)))]) = [.v (.int n), .v (.lst (gs.map fun l => .lst (l.map encE)))] from rfl, a8, to_ok]
  simp only [List.set]
  rw [seq_nx, sSeq_eq, sIf_eq, a10, to_ok]
  simp only [Bool.false_eq_true, if_false, sNil_eq, seq_nx]
theorem loop_ok (hT : LawT T ck sub c1 c2 c3 c4) {s : PV.W} {st : Sto} (h : penR 1000000 [] st) :
    ∃ e st', sFor (itRng1 (eCon (.int 8))) (.slot 2) turnB (run T (d + 6)) [some s, some (.cel 0), none, none, none, none, none, none, none, none, none, none, none, none, none] st = .nx e st' ∧ plainSto st' = true := by
  obtain ⟨e, st', k1, k2⟩ := forGo_inv (O := run T (d + 6)) (tg := .slot 2) (body := turnB) (ok := fun _ => true) (fun (k : Nat) => A.int k) (List.range 8) (fun l e st => penR (l.length * 7402) [] st ∧ ∃ x2 x3 x4 x5 x6 x7 x8 x9 x10, e = [some s, some (.cel 0), x2, x3, x4, x5, x6, x7, x8, x9, x10, none, none, none, none]) [some s, some (.cel 0), none, none, none, none, none, none, none, none, none, none, none, none, none] st ⟨h.mono (by decide), _, _, _, _, _, _, _, _, _, rfl⟩ (by
    rintro a r e st ⟨hp, x2, x3, x4, x5, x6, x7, x8, x9, x10, rfl⟩
    obtain ⟨y3, y4, y5, y6, y7, y8, y9, y10, st2, k1, k2⟩ := turn_ok (d := d) hT (s := s) (x2 := some (.v (.int a))) (x3 := x3) (x4 := x4) (x5 := x5) (x6 := x6) (x7 := x7) (x8 := x8) (x9 := x9) (x10 := x10) (q := r.length * 7402) (st := st) (by
      refine hp.mono (Nat.le_of_eq ?_)
      rw [List.length_cons]; omega)
    exact ⟨_, _, st2, rfl, k1, rfl, k2, _, _, _, _, _, _, _, _, _, rfl⟩)
  refine ⟨e, st', ?_, k2.1.plain rfl⟩
  rw [sFor_eq, itRng_ok (n := 8) (st1 := st) rfl (by omega)]
  simp only [to_ok, if_true]
  exact k1
/-! ### the ends -/
theorem ordL_one (x : Line) : ordL [x] = [x] := Asc.ordL ⟨by simp, by simp⟩
theorem ordL_nil : ordL [] = [] := Asc.ordL ⟨by simp, by simp⟩
theorem okL_zero {n : Nat} (k : Nat) (h : k = n) : okL n false (List.replicate k (some 0)) := ⟨by simp [h], by simp [okE]⟩
theorem oA1 : ordL (outA 3 []) = [[none, none, none]] := ordL_one _
theorem oB1 : ordL (outB 2 []) = [[some 0, some 0]] := ordL_one _
theorem hl2 : ∀ l ∈ ([[some 0, some 0], [some 1, some 5]] : List Line), okL 2 false l := by
  intro l hl
  simp at hl
  rcases hl with rfl | rfl <;> exact ⟨rfl, rfl⟩
theorem oA2 : outA 2 [[some 0, some 0], [some 1, some 5]] = [] := by
  have i := invA_out _ hl2
  cases e : outA 2 [[some 0, some 0], [some 1, some 5]] with
  | nil => rfl
  | cons y ys =>
    rw [e] at i
    have h1 := i.ok y List.mem_cons_self
    have h2 := i.out y List.mem_cons_self [some 0, some 0] (by simp)
    obtain ⟨a, b, rfl⟩ := two_of h1.1
    have ha : okE true a = true := h1.get (i := 0) rfl
    have hb : okE true b = true := h1.get (i := 1) rfl
    exfalso
    have l0 : ∀ v : Ent, okE true v = true → leE (some 0) v = true := fun v hv => by
      cases v with
      | none => rfl
      | some j => simpa [leE, okE] using hv
    simp [noGt, l0 a ha, l0 b hb] at h2
theorem hl3 : ∀ l ∈ ([[none, none], [some 0, some 1]] : List Line), okL 2 true l := by
  intro l hl
  simp at hl
  rcases hl with rfl | rfl <;> exact ⟨rfl, rfl⟩
theorem oB2 : outB 2 [[none, none], [some 0, some 1]] = [] := by
  have i := invB_out _ hl3
  cases e : outB 2 [[none, none], [some 0, some 1]] with
  | nil => rfl
  | cons y ys =>
    rw [e] at i
    have h1 := i.ok y List.mem_cons_self
    have h2 := i.out y List.mem_cons_self [none, none] (by simp)
    obtain ⟨a, b, rfl⟩ := two_of h1.1
    exfalso
    simp [noGt, leE] at h2
theorem one_of_L {y : Line} (h : y.length = 1) : ∃ a, y = [a] := by
  match y, h with
  | [a], _ => exact ⟨a, rfl⟩
theorem hl4 {N : Int} (hN : 0 ≤ N) : ∀ l ∈ ([[some N]] : List Line), okL 1 true l := by
  intro l hl
  simp at hl
  subst hl
  exact ⟨rfl, by simpa [okE] using hN⟩
theorem oB3 {N : Int} (hN : 0 ≤ N) : outB 1 [[some N]] = [[some (N + 1)]] := by
  have i := invB_out _ (hl4 hN)
  have hx : okL 1 false [some (N + 1)] := ⟨rfl, by simp [okE]; omega⟩
  obtain ⟨y, hy, hyx⟩ := i.all [some (N + 1)] hx (by
    intro p hp
    simp at hp
    subst hp
    simp [noGt, leE]; omega)
  have form : ∀ z ∈ outB 1 [[some N]], ∃ j : Int, z = [some j] ∧ N + 1 ≤ j := fun z hz => by
    have h1 := i.ok z hz
    have h2 := i.out z hz [some N] (by simp)
    obtain ⟨a, rfl⟩ := one_of_L h1.1
    have ha : okE false a = true := h1.get (i := 0) rfl
    cases a with
    | none => cases ha
    | some j =>
      simp [noGt, leE] at h2
      exact ⟨j, rfl, by omega⟩
  obtain ⟨j, rfl, hj⟩ := form y hy
  simp [noGt, leE] at hyx
  have : j = N + 1 := by omega
  subst this
  have all : ∀ z ∈ outB 1 [[some N]], z = [some (N + 1)] := fun z hz => by
    obtain ⟨k, rfl, hk⟩ := form z hz
    exact (i.anti _ hy _ hz (by simp [noGt, leE]; omega)).symm
  have nd := i.nd
  revert all nd hy
  generalize outB 1 [[some N]] = L
  intro hy all nd
  match L, hy, all, nd with
  | [z], _, all, _ => rw [all z List.mem_cons_self]
  | z :: w :: L, _, all, nd =>
    have h1 := all z List.mem_cons_self
    have h2 := all w (List.mem_cons_of_mem _ List.mem_cons_self)
    rw [h1, h2] at nd
    simp at nd
theorem isRs_of (ls : List Line) {a : A} (h : a = .lst (ls.map encL)) : IsRs a (ls.map fun l => (false, l)) := h ▸ isRs_lst ls
theorem lastT_ok (hT : LawT T ck sub c1 c2 c3 c4) (e : Env) {st : Sto} (hs : plainSto st = true) : lastT (run T (d + 6)) e st = .ok false st := by
  have k1 := outsideA (d := d) hT (n := 3) (by omega) (by omega) (isRs_lst []) (fun _ h => nomatch h) (Nat.zero_le _) (by decide) hs
  have k2 := outsideA (d := d) hT (n := 2) (by omega) (by omega) (isRs_lst [[some 0, some 0], [some 1, some 5]]) hl2 (by decide) (by rw [oA2]; decide) hs
  have k3 := outsideB (d := d + 1) hT (n := 2) (by omega) (by omega) (isRs_lst []) (fun _ h => nomatch h) (Nat.zero_le _) (by decide) hs
  rw [oA1] at k1
  rw [oA2, ordL_nil] at k2
  rw [oB1] at k3
  have k1' : run T (d + 6) 20 [.v (.int 3), .v (.lst [])] st = .ok (.v (.tup [encL [none, none, none]])) st := k1
  have k2' : run T (d + 6) 20 [.v (.int 2), .v (.lst [.tup [.int 0, .int 0], .tup [.int 1, .int 5]])] st = .ok (.v (.tup [])) st := k2
  have k3' : run T (d + 6) 21 [.v (.int 2), .v (.lst [])] st = .ok (.v (.tup [encL [some 0, some 0]])) st := k3
  have m1 : fMul (.tup [.non]) (.int 3) = some (encL [none, none, none]) := rfl
  have f1 : fNe (.tup [encL [none, none, none]]) (.tup [encL [none, none, none]]) = some (.bl false) := rfl
  have f2 : fNe (.tup []) (.tup []) = some (.bl false) := rfl
  have f3 : fNe (.tup [encL [some 0, some 0]]) (.tup [.tup [.int 0, .int 0]]) = some (.bl false) := rfl
  unfold lastT
  rw [tOr_eq, tEx_eq]
  simp only [eOp2_eq, eCall_eq, eTup_eq, eLst_eq, esDef_eq, esCons_eq, esNil_eq, eCon_eq, bind_ok, List.map_nil, List.append_nil, disp0, disp1, op2_v, m1, ofV_some, k1', f1, truthW_bl, Bool.false_eq_true, if_false]
  rw [tOr_eq, tEx_eq]
  simp only [eOp2_eq, eCall_eq, eTup_eq, eLst_eq, esDef_eq, esCons_eq, esNil_eq, eCon_eq, bind_ok, List.map_nil, List.append_nil, disp0, disp1, disp2, op2_v, ofV_some, k2', f2, truthW_bl, Bool.false_eq_true, if_false]
  rw [tEx_eq]
  simp only [eOp2_eq, eCall_eq, eTup_eq, eLst_eq, esDef_eq, esCons_eq, esNil_eq, eCon_eq, bind_ok, List.map_nil, List.append_nil, disp0, disp1, disp2, op2_v, ofV_some, k3', f3, truthW_bl]
theorem lastX_ok (hT : LawT T ck sub c1 c2 c3 c4) (e : Env) {st : Sto} (hs : plainSto st = true) : lastX (run T (d + 6)) e st = .ok (.v (.bl true)) st := by
  have hp : fPow (.int 10) (.int 30) = some (.int (10 ^ 30)) := fPow_int (i := 10) (k := 30) (by omega) (by decide)
  have hN : (0 : Int) ≤ 10 ^ 30 := by decide
  revert hp hN
  generalize (10 ^ 30 : Int) = N
  intro hp hN
  have k2 := outsideB (d := d + 1) hT (n := 2) (by omega) (by omega) (isRs_lst [[none, none], [some 0, some 1]]) hl3 (by decide) (by rw [oB2]; decide) hs
  have k3 := outsideB (d := d + 1) hT (n := 1) (by omega) (by omega) (isRs_lst [[some N]]) (hl4 hN) (by simp) (by rw [oB3 hN]; exact Nat.le_of_ble_eq_true rfl) hs
  rw [oB2, ordL_nil] at k2
  rw [oB3 hN, ordL_one] at k3
  have k2' : run T (d + 6) 21 [.v (.int 2), .v (.lst [.tup [.non, .non], .tup [.int 0, .int 1]])] st = .ok (.v (.tup [])) st := k2
  have k3' : run T (d + 6) 21 [.v (.int 1), .v (.lst [.tup [.int N]])] st = .ok (.v (.tup [.tup [.int (N + 1)]])) st := k3
  have f2 : fEq (.tup []) (.tup []) = some (.bl true) := rfl
  have f3 : fEq (.tup [.tup [.int (N + 1)]]) (.tup [.tup [.int (N + 1)]]) = some (.bl true) := by
    have := fEq_tups [[some (N + 1)]] [[some (N + 1)]]
    simpa [encL, encE] using this
  unfold lastX
  rw [eAnd_eq]
  simp only [eOp2_eq, eCall_eq, eTup_eq, eLst_eq, esDef_eq, esCons_eq, esNil_eq, eCon_eq, bind_ok, List.map_nil, List.append_nil, disp0, disp1, disp2, op2_v, ofV_some, k2', f2, truthW_bl, if_true, hp, fAdd_int, k3', f3]
theorem whole_ok (hT : LawT T ck sub c1 c2 c3 c4) (h32 : T 32 = some f_law) {zs : List Int} (hz : zs.length ≤ 63) : ∃ st, run T (d + 7) 32 [.v (.lst (zs.map A.int))] [] = .ok (.v (.bl true)) st := by
  obtain ⟨st1, k1, p1⟩ := pen0 (d := d + 5) hT.t22 hz
  obtain ⟨e, st2, k2, p2⟩ := loop_ok (d := d) hT (s := .v (.lst (zs.map A.int))) p1
  refine ⟨[], run_rtV (fd := f_law) (st1 := st2) (w := .v (.bl true)) h32 rfl rfl ?_ ?_⟩
  · have e1 : ([PV.W.v (.lst (zs.map A.int))] : List PV.W).map some ++ List.replicate (f_law.ns - f_law.np) none = [some (.v (.lst (zs.map A.int))), none, none, none, none, none, none, none, none, none, none, none, none, none, none] := rfl
    have e2 : f_law.body = lawB := rfl
    rw [e1, e2]
    unfold lawB
    rw [sSeq_eq, sSet_eq]
    simp only [eCall_eq, esDef_eq, esCons_eq, esNil_eq, eVar_eq, List.getElem?_cons_zero, bind_ok, List.map_nil, List.append_nil]
    rw [k1, to_ok]
    simp only [List.set]
    rw [seq_nx, sSeq_eq, k2, seq_nx, sSeq_eq, sIf_eq, lastT_ok hT e p2, to_ok]
    simp only [Bool.false_eq_true, if_false, sNil_eq]
    rw [seq_nx, sSeq_eq, sRet_eq, lastX_ok hT e p2, to_ok, seq_rt]
  · exact leave_v (st := []) rfl
end
end K31
end PV
end
section
set_option linter.all false
set_option Elab.async false
set_option maxRecDepth 100000
set_option maxHeartbeats 0
/-! HD: the head; printed by mk.py. -/
namespace PV.K31
open PySem PySem.Spec PyProof.Rows L2
def top (i : Nat) : Stmt := PySem.Challenge.pw_everyswap_k31_whole_what_lies_outside_of.main.body.getD i (.Pass ⟨0, 0, 0, 0⟩)
def d_is_integer : Df := { i := 0, x := "is_integer", ps := ["value"], params := defArgs (top 1), body := defBody (top 1), scope := defScope (top 1), Nn := ["value"], chg := [], ret := false, lk := false, ds := [], pats := [] }
def d_is_within : Df := { i := 1, x := "is_within", ps := ["value", "least", "most"], params := defArgs (top 2), body := defBody (top 2), scope := defScope (top 2), Nn := ["value", "least", "most"], chg := [], ret := false, lk := false, ds := [], pats := [] }
def d_is_listed : Df := { i := 2, x := "is_listed", ps := ["value"], params := defArgs (top 3), body := defBody (top 3), scope := defScope (top 3), Nn := ["value"], chg := [], ret := false, lk := false, ds := [], pats := [] }
def d_is_row : Df := { i := 3, x := "is_row", ps := ["value", "least", "most"], params := defArgs (top 4), body := defBody (top 4), scope := defScope (top 4), Nn := ["value", "least", "most"], chg := [], ret := false, lk := false, ds := [], pats := [] }
def d_is_no_greater : Df := { i := 4, x := "is_no_greater", ps := ["one", "other"], params := defArgs (top 14), body := defBody (top 14), scope := defScope (top 14), Nn := ["one", "other", ".0", "value", "its"], chg := [], ret := false, lk := false, ds := [], pats := [] }
def d_order_of : Df := { i := 5, x := "order_of", ps := ["line"], params := defArgs (top 15), body := defBody (top 15), scope := defScope (top 15), Nn := ["line", ".0", "value"], chg := [], ret := false, lk := false, ds := [], pats := [] }
def d_ordered : Df := { i := 6, x := "ordered", ps := ["lines"], params := defArgs (top 16), body := defBody (top 16), scope := defScope (top 16), Nn := ["lines", ".0", "line"], chg := [], ret := false, lk := false, ds := [], pats := [] }
def d_least_among : Df := { i := 7, x := "least_among", ps := ["lines"], params := defArgs (top 17), body := defBody (top 17), scope := defScope (top 17), Nn := ["lines", "found", "line", ".0", "one"], chg := ["found"], ret := false, lk := false, ds := [], pats := [] }
def d_greatest_among : Df := { i := 8, x := "greatest_among", ps := ["lines"], params := defArgs (top 18), body := defBody (top 18), scope := defScope (top 18), Nn := ["lines", "found", "line", ".0", "one"], chg := ["found"], ret := false, lk := false, ds := [], pats := [] }
def d_with_entry : Df := { i := 9, x := "with_entry", ps := ["line", "at", "value"], params := defArgs (top 19), body := defBody (top 19), scope := defScope (top 19), Nn := ["line", "at", "value"], chg := [], ret := false, lk := false, ds := [], pats := [] }
def d_joined : Df := { i := 10, x := "joined", ps := ["one", "other"], params := defArgs (top 20), body := defBody (top 20), scope := defScope (top 20), Nn := ["one", "other", "pairs", ".0", "value", "its"], chg := [], ret := false, lk := false, ds := [], pats := [] }
def d_met : Df := { i := 11, x := "met", ps := ["one", "other"], params := defArgs (top 21), body := defBody (top 21), scope := defScope (top 21), Nn := ["one", "other", "pairs", ".0", "value", "its"], chg := [], ret := false, lk := false, ds := [], pats := [] }
def d_let_lines : Df := { i := 12, x := "let_lines", ps := ["lines"], params := defArgs (top 22), body := defBody (top 22), scope := defScope (top 22), Nn := ["lines"], chg := [], ret := false, lk := false, ds := [], pats := [] }
def d_below_none : Df := { i := 13, x := "below_none", ps := ["many", "line"], params := defArgs (top 23), body := defBody (top 23), scope := defScope (top 23), Nn := ["many", "line", "whole", ".0", "at", "value"], chg := [], ret := false, lk := false, ds := [], pats := [] }
def d_all_outside_above : Df := { i := 14, x := "all_outside_above", ps := ["many", "lines"], params := defArgs (top 24), body := defBody (top 24), scope := defScope (top 24), Nn := ["many", "lines", "found", "line", "kept", "parts", "later", ".0", "one", "part", "its"], chg := [], ret := false, lk := false, ds := [], pats := [] }
def d_outside_above : Df := { i := 15, x := "outside_above", ps := ["many", "lines"], params := defArgs (top 25), body := defBody (top 25), scope := defScope (top 25), Nn := ["many", "lines"], chg := [], ret := false, lk := false, ds := [], pats := [] }
def d_above_all : Df := { i := 16, x := "above_all", ps := ["many", "line"], params := defArgs (top 26), body := defBody (top 26), scope := defScope (top 26), Nn := ["many", "line", "noughts", ".0", "at", "value"], chg := [], ret := false, lk := false, ds := [], pats := [] }
def d_outside_below : Df := { i := 17, x := "outside_below", ps := ["many", "lines"], params := defArgs (top 27), body := defBody (top 27), scope := defScope (top 27), Nn := ["many", "lines", "found", "line", "kept", "parts", "later", ".0", "one", "part", "its"], chg := [], ret := false, lk := false, ds := [], pats := [] }
def d_is_line : Df := { i := 18, x := "is_line", ps := ["value", "many", "is_wide"], params := defArgs (top 28), body := defBody (top 28), scope := defScope (top 28), Nn := ["value", "many", "is_wide", ".0", "one"], chg := [], ret := false, lk := false, ds := [], pats := [] }
def d_need_lines : Df := { i := 19, x := "need_lines", ps := ["value", "many", "is_wide"], params := defArgs (top 29), body := defBody (top 29), scope := defScope (top 29), Nn := ["value", "many", "is_wide", ".0", "line"], chg := [], ret := false, lk := false, ds := [], pats := [] }
def d_greatest_outside : Df := { i := 20, x := "greatest_outside", ps := ["many", "lines"], params := defArgs (top 30), body := defBody (top 30), scope := defScope (top 30), Nn := ["many", "lines"], chg := [], ret := false, lk := false, ds := [], pats := [⟨0, ["lines", "many"], [1, 0]⟩] }
def d_least_outside : Df := { i := 21, x := "least_outside", ps := ["many", "lines"], params := defArgs (top 31), body := defBody (top 31), scope := defScope (top 31), Nn := ["many", "lines"], chg := [], ret := false, lk := false, ds := [], pats := [⟨0, ["many", "lines"], [0, 1]⟩] }
def d__law_pen : Df := { i := 22, x := "_law_pen", ps := ["script"], params := defArgs (top 33), body := defBody (top 33), scope := defScope (top 33), Nn := ["script", ".0", "cell"], chg := [], ret := true, lk := true, ds := [], pats := [] }
def d__law_draw : Df := { i := 23, x := "_law_draw", ps := ["pen", "many"], params := defArgs (top 34), body := defBody (top 34), scope := defScope (top 34), Nn := ["pen", "many", "rest", "at", "cell", "mixed"], chg := [], ret := false, lk := false, ds := [], pats := [] }
def d__law_pick : Df := { i := 24, x := "_law_pick", ps := ["pen", "some"], params := defArgs (top 35), body := defBody (top 35), scope := defScope (top 35), Nn := ["pen", "some"], chg := [], ret := false, lk := false, ds := [], pats := [] }
def d__law_b_below : Df := { i := 25, x := "_law_b_below", ps := ["one", "other"], params := defArgs (top 36), body := defBody (top 36), scope := defScope (top 36), Nn := ["one", "other", ".0", "value", "its"], chg := [], ret := false, lk := false, ds := [], pats := [] }
def d__law_b_key : Df := { i := 26, x := "_law_b_key", ps := ["line"], params := defArgs (top 37), body := defBody (top 37), scope := defScope (top 37), Nn := ["line", ".0", "value"], chg := [], ret := false, lk := false, ds := [], pats := [] }
def d__law_b_sorted : Df := { i := 27, x := "_law_b_sorted", ps := ["lines"], params := defArgs (top 38), body := defBody (top 38), scope := defScope (top 38), Nn := ["lines"], chg := [], ret := false, lk := false, ds := [], pats := [] }
def d__law_b_least : Df := { i := 28, x := "_law_b_least", ps := ["lines"], params := defArgs (top 39), body := defBody (top 39), scope := defScope (top 39), Nn := ["lines", "some", ".0", "line", "one"], chg := [], ret := false, lk := false, ds := [], pats := [] }
def d__law_b_greatest : Df := { i := 29, x := "_law_b_greatest", ps := ["lines"], params := defArgs (top 40), body := defBody (top 40), scope := defScope (top 40), Nn := ["lines", "some", ".0", "line", "one"], chg := [], ret := false, lk := false, ds := [], pats := [] }
def d__law_b_lines : Df := { i := 30, x := "_law_b_lines", ps := ["pen", "wide", "least", "greatest"], params := defArgs (top 41), body := defBody (top 41), scope := defScope (top 41), Nn := ["pen", "wide", "least", "greatest", "rows", "many", "at", "some", "row", "found", ".0", "line", "lap", "value"], chg := ["rows"], ret := false, lk := false, ds := [], pats := [] }
def d__law_b_parted : Df := { i := 31, x := "_law_b_parted", ps := ["pen", "wide", "least", "greatest"], params := defArgs (top 42), body := defBody (top 42), scope := defScope (top 42), Nn := ["pen", "wide", "least", "greatest", "line", "above", "below", ".0", "one"], chg := [], ret := false, lk := false, ds := [], pats := [] }
def d_law : Df := { i := 32, x := "law", ps := ["script"], params := defArgs (top 43), body := defBody (top 43), scope := defScope (top 43), Nn := ["script", "pen", "turn", "wide", "most", "lines", "least", "told", "ideals", "greatest", "low", ".0", "lap", "at", "line"], chg := [], ret := false, lk := false, ds := [], pats := [] }
abbrev defs : List Df := [d_is_integer, d_is_within, d_is_listed, d_is_row, d_is_no_greater, d_order_of, d_ordered, d_least_among, d_greatest_among, d_with_entry, d_joined, d_met, d_let_lines, d_below_none, d_all_outside_above, d_outside_above, d_above_all, d_outside_below, d_is_line, d_need_lines, d_greatest_outside, d_least_outside, d__law_pen, d__law_draw, d__law_pick, d__law_b_below, d__law_b_key, d__law_b_sorted, d__law_b_least, d__law_b_greatest, d__law_b_lines, d__law_b_parted, d_law]
abbrev cs : List (PySem.Str × A) := [("MOST_WIDE", (.int 10)), ("MOST_LINES", (.int 400)), ("MOST_ASKED", (.int 60))]
abbrev fr : List PySem.Str := ["abs", "all", "any", "bool", "dict", "enumerate", "int", "isinstance", "len", "list", "max", "min", "range", "set", "sorted", "sum", "tuple", "zip"]
abbrev g : Gt := gOf defs cs fr
theorem e_is_integer (isi : List A → Option A) : d_is_integer.fnd isi 60 g = f_is_integer isi := by kernel_rfl
theorem e_is_within (isi : List A → Option A) : d_is_within.fnd isi 60 g = f_is_within := by kernel_rfl
theorem e_is_listed (isi : List A → Option A) : d_is_listed.fnd isi 60 g = f_is_listed isi := by kernel_rfl
theorem e_is_row (isi : List A → Option A) : d_is_row.fnd isi 60 g = f_is_row := by kernel_rfl
theorem e_is_no_greater (isi : List A → Option A) : d_is_no_greater.fnd isi 60 g = f_is_no_greater := by kernel_rfl
theorem e_order_of (isi : List A → Option A) : d_order_of.fnd isi 60 g = f_order_of := by kernel_rfl
theorem e_ordered (isi : List A → Option A) : d_ordered.fnd isi 60 g = f_ordered := by kernel_rfl
theorem e_least_among (isi : List A → Option A) : d_least_among.fnd isi 60 g = f_least_among := by kernel_rfl
theorem e_greatest_among (isi : List A → Option A) : d_greatest_among.fnd isi 60 g = f_greatest_among := by kernel_rfl
theorem e_with_entry (isi : List A → Option A) : d_with_entry.fnd isi 60 g = f_with_entry := by kernel_rfl
theorem e_joined (isi : List A → Option A) : d_joined.fnd isi 60 g = f_joined := by kernel_rfl
theorem e_met (isi : List A → Option A) : d_met.fnd isi 60 g = f_met := by kernel_rfl
theorem e_let_lines (isi : List A → Option A) : d_let_lines.fnd isi 60 g = f_let_lines := by kernel_rfl
theorem e_below_none (isi : List A → Option A) : d_below_none.fnd isi 60 g = f_below_none := by kernel_rfl
theorem e_all_outside_above (isi : List A → Option A) : d_all_outside_above.fnd isi 60 g = f_all_outside_above := by kernel_rfl
theorem e_outside_above (isi : List A → Option A) : d_outside_above.fnd isi 60 g = f_outside_above := by kernel_rfl
theorem e_above_all (isi : List A → Option A) : d_above_all.fnd isi 60 g = f_above_all := by kernel_rfl
theorem e_outside_below (isi : List A → Option A) : d_outside_below.fnd isi 60 g = f_outside_below := by kernel_rfl
theorem e_is_line (isi : List A → Option A) : d_is_line.fnd isi 60 g = f_is_line := by kernel_rfl
theorem e_need_lines (isi : List A → Option A) : d_need_lines.fnd isi 60 g = f_need_lines := by kernel_rfl
theorem e_greatest_outside (isi : List A → Option A) : d_greatest_outside.fnd isi 60 g = f_greatest_outside := by kernel_rfl
theorem e_least_outside (isi : List A → Option A) : d_least_outside.fnd isi 60 g = f_least_outside := by kernel_rfl
theorem e__law_pen (isi : List A → Option A) : d__law_pen.fnd isi 60 g = f__law_pen := by kernel_rfl
theorem e__law_draw (isi : List A → Option A) : d__law_draw.fnd isi 60 g = f__law_draw := by kernel_rfl
theorem e__law_pick (isi : List A → Option A) : d__law_pick.fnd isi 60 g = f__law_pick := by kernel_rfl
theorem e__law_b_below (isi : List A → Option A) : d__law_b_below.fnd isi 60 g = f__law_b_below := by kernel_rfl
theorem e__law_b_key (isi : List A → Option A) : d__law_b_key.fnd isi 60 g = f__law_b_key := by kernel_rfl
theorem e__law_b_sorted (isi : List A → Option A) : d__law_b_sorted.fnd isi 60 g = f__law_b_sorted := by kernel_rfl
theorem e__law_b_least (isi : List A → Option A) : d__law_b_least.fnd isi 60 g = f__law_b_least := by kernel_rfl
theorem e__law_b_greatest (isi : List A → Option A) : d__law_b_greatest.fnd isi 60 g = f__law_b_greatest := by kernel_rfl
theorem e__law_b_lines (isi : List A → Option A) : d__law_b_lines.fnd isi 60 g = f__law_b_lines := by kernel_rfl
theorem e__law_b_parted (isi : List A → Option A) : d__law_b_parted.fnd isi 60 g = f__law_b_parted := by kernel_rfl
theorem e_law (isi : List A → Option A) : d_law.fnd isi 60 g = f_law := by kernel_rfl
end PV.K31
end
section
set_option linter.all false
set_option Elab.async false
set_option maxRecDepth 100000
set_option maxHeartbeats 0
/-! HR: the run of the top; printed by mk.py. -/
namespace PV.K31
open PySem PySem.Spec PyProof.Rows L2
def dd (i : Nat) (x : PySem.Str) : He.DefD := ⟨(x, none), x, x, defArgs (top i), defBody (top i), defScope (top i), [], []⟩
def fn : List He.DefD := [dd 1 "is_integer", dd 2 "is_within", dd 3 "is_listed", dd 4 "is_row", dd 14 "is_no_greater", dd 15 "order_of", dd 16 "ordered", dd 17 "least_among", dd 18 "greatest_among", dd 19 "with_entry", dd 20 "joined", dd 21 "met", dd 22 "let_lines", dd 23 "below_none", dd 24 "all_outside_above", dd 25 "outside_above", dd 26 "above_all", dd 27 "outside_below", dd 28 "is_line", dd 29 "need_lines", dd 30 "greatest_outside", dd 31 "least_outside", dd 33 "_law_pen", dd 34 "_law_draw", dd 35 "_law_pick", dd 36 "_law_b_below", dd 37 "_law_b_key", dd 38 "_law_b_sorted", dd 39 "_law_b_least", dd 40 "_law_b_greatest", dd 41 "_law_b_lines", dd 42 "_law_b_parted", dd 43 "law"]
def fa0 : List He.Fa := [.glo "is_integer", .glo "is_within", .glo "is_listed", .glo "is_row", .glo "is_no_greater", .glo "order_of", .glo "ordered", .glo "least_among", .glo "greatest_among", .glo "with_entry", .glo "joined", .glo "met", .glo "let_lines", .glo "below_none", .glo "all_outside_above", .glo "outside_above", .glo "above_all", .glo "outside_below", .glo "is_line", .glo "need_lines", .glo "greatest_outside", .glo "least_outside", .glo "_law_pen", .glo "_law_draw", .glo "_law_pick", .glo "_law_b_below", .glo "_law_b_key", .glo "_law_b_sorted", .glo "_law_b_least", .glo "_law_b_greatest"]
def fa1 : List He.Fa := [.glo "_law_b_lines", .glo "_law_b_parted", .glo "law", .int "MOST_WIDE" (10), .int "MOST_LINES" (400), .int "MOST_ASKED" (60), .free "abs", .free "all", .free "any", .free "bool", .free "dict", .free "enumerate", .free "int", .free "isinstance", .free "len", .free "list", .free "max", .free "min", .free "range", .free "set", .free "sorted", .free "sum", .free "tuple", .free "zip"]
def fa : List He.Fa := fa0 ++ fa1
def loose0 : List PySem.Str := ["is_integer", "is_within", "is_listed", "is_row", "SwapError", "BadNumber", "BadValue", "TooMany", "MOST_WIDE", "MOST_LINES", "MOST_ASKED", "is_no_greater", "order_of", "ordered", "least_among", "greatest_among", "with_entry", "joined", "met", "let_lines", "below_none", "all_outside_above", "outside_above", "above_all", "outside_below", "is_line", "need_lines", "greatest_outside", "least_outside", "_law_pen"]
def loose1 : List PySem.Str := ["_law_draw", "_law_pick", "_law_b_below", "_law_b_key", "_law_b_sorted", "_law_b_least", "_law_b_greatest", "_law_b_lines", "_law_b_parted"]
def loose : List PySem.Str := loose0 ++ loose1
abbrev R : PySem.W.OpenRow := PySem.W.OpenLaw.row PySem.Challenge.rw_everyswap_k31_whole_what_lies_outside_of
abbrev hk : PySem.W.Hook := He.hookD 4 fa fn
def ob (s : PySem.W.SharedT) : He.AlD := He.obsDG 4 fa fn (HandSHeadRun.getT s)
theorem ob_eq (s : PySem.W.SharedT) : ob s = hk.obs s.abs := He.obsDG_eq (HandSHeadRun.getT_eq s)
theorem run_top (w : World) : HandSHeadRun.RunEq R (PySem.W.view R.prog [43]) hk ob 3000 loose w := by
  intro os
  kernel_rfl
end PV.K31
end
section
set_option linter.all false
set_option Elab.async false
set_option maxRecDepth 100000
set_option maxHeartbeats 0
/-! HE: the end; printed by mk.py. -/
namespace PV.K31
open PySem PySem.Spec PyProof.Rows L2
theorem sc_is_integer : FnScope d_is_integer.Nn d_is_integer.ps d_is_integer.scope := ⟨rfl, rfl, rfl, by decide +kernel, rfl, by decide +kernel, by decide +kernel⟩
theorem bd_is_integer : BindsD d_is_integer := ⟨rfl, fun _ _ _ _ _ _ us hl => match us, hl with | [_], _ => rfl, fun _ h => nomatch h⟩
theorem sc_is_within : FnScope d_is_within.Nn d_is_within.ps d_is_within.scope := ⟨rfl, rfl, rfl, by decide +kernel, rfl, by decide +kernel, by decide +kernel⟩
theorem bd_is_within : BindsD d_is_within := ⟨rfl, fun _ _ _ _ _ _ us hl => match us, hl with | [_, _, _], _ => rfl, fun _ h => nomatch h⟩
theorem sc_is_listed : FnScope d_is_listed.Nn d_is_listed.ps d_is_listed.scope := ⟨rfl, rfl, rfl, by decide +kernel, rfl, by decide +kernel, by decide +kernel⟩
theorem bd_is_listed : BindsD d_is_listed := ⟨rfl, fun _ _ _ _ _ _ us hl => match us, hl with | [_], _ => rfl, fun _ h => nomatch h⟩
theorem sc_is_row : FnScope d_is_row.Nn d_is_row.ps d_is_row.scope := ⟨rfl, rfl, rfl, by decide +kernel, rfl, by decide +kernel, by decide +kernel⟩
theorem bd_is_row : BindsD d_is_row := ⟨rfl, fun _ _ _ _ _ _ us hl => match us, hl with | [_, _, _], _ => rfl, fun _ h => nomatch h⟩
theorem sc_is_no_greater : FnScope d_is_no_greater.Nn d_is_no_greater.ps d_is_no_greater.scope := ⟨rfl, rfl, rfl, by decide +kernel, rfl, by decide +kernel, by decide +kernel⟩
theorem bd_is_no_greater : BindsD d_is_no_greater := ⟨rfl, fun _ _ _ _ _ _ us hl => match us, hl with | [_, _], _ => rfl, fun _ h => nomatch h⟩
theorem sc_order_of : FnScope d_order_of.Nn d_order_of.ps d_order_of.scope := ⟨rfl, rfl, rfl, by decide +kernel, rfl, by decide +kernel, by decide +kernel⟩
theorem bd_order_of : BindsD d_order_of := ⟨rfl, fun _ _ _ _ _ _ us hl => match us, hl with | [_], _ => rfl, fun _ h => nomatch h⟩
theorem sc_ordered : FnScope d_ordered.Nn d_ordered.ps d_ordered.scope := ⟨rfl, rfl, rfl, by decide +kernel, rfl, by decide +kernel, by decide +kernel⟩
theorem bd_ordered : BindsD d_ordered := ⟨rfl, fun _ _ _ _ _ _ us hl => match us, hl with | [_], _ => rfl, fun _ h => nomatch h⟩
theorem sc_least_among : FnScope d_least_among.Nn d_least_among.ps d_least_among.scope := ⟨rfl, rfl, rfl, by decide +kernel, rfl, by decide +kernel, by decide +kernel⟩
theorem bd_least_among : BindsD d_least_among := ⟨rfl, fun _ _ _ _ _ _ us hl => match us, hl with | [_], _ => rfl, fun _ h => nomatch h⟩
theorem sc_greatest_among : FnScope d_greatest_among.Nn d_greatest_among.ps d_greatest_among.scope := ⟨rfl, rfl, rfl, by decide +kernel, rfl, by decide +kernel, by decide +kernel⟩
theorem bd_greatest_among : BindsD d_greatest_among := ⟨rfl, fun _ _ _ _ _ _ us hl => match us, hl with | [_], _ => rfl, fun _ h => nomatch h⟩
theorem sc_with_entry : FnScope d_with_entry.Nn d_with_entry.ps d_with_entry.scope := ⟨rfl, rfl, rfl, by decide +kernel, rfl, by decide +kernel, by decide +kernel⟩
theorem bd_with_entry : BindsD d_with_entry := ⟨rfl, fun _ _ _ _ _ _ us hl => match us, hl with | [_, _, _], _ => rfl, fun _ h => nomatch h⟩
theorem sc_joined : FnScope d_joined.Nn d_joined.ps d_joined.scope := ⟨rfl, rfl, rfl, by decide +kernel, rfl, by decide +kernel, by decide +kernel⟩
theorem bd_joined : BindsD d_joined := ⟨rfl, fun _ _ _ _ _ _ us hl => match us, hl with | [_, _], _ => rfl, fun _ h => nomatch h⟩
theorem sc_met : FnScope d_met.Nn d_met.ps d_met.scope := ⟨rfl, rfl, rfl, by decide +kernel, rfl, by decide +kernel, by decide +kernel⟩
theorem bd_met : BindsD d_met := ⟨rfl, fun _ _ _ _ _ _ us hl => match us, hl with | [_, _], _ => rfl, fun _ h => nomatch h⟩
theorem sc_let_lines : FnScope d_let_lines.Nn d_let_lines.ps d_let_lines.scope := ⟨rfl, rfl, rfl, by decide +kernel, rfl, by decide +kernel, by decide +kernel⟩
theorem bd_let_lines : BindsD d_let_lines := ⟨rfl, fun _ _ _ _ _ _ us hl => match us, hl with | [_], _ => rfl, fun _ h => nomatch h⟩
theorem sc_below_none : FnScope d_below_none.Nn d_below_none.ps d_below_none.scope := ⟨rfl, rfl, rfl, by decide +kernel, rfl, by decide +kernel, by decide +kernel⟩
theorem bd_below_none : BindsD d_below_none := ⟨rfl, fun _ _ _ _ _ _ us hl => match us, hl with | [_, _], _ => rfl, fun _ h => nomatch h⟩
theorem sc_all_outside_above : FnScope d_all_outside_above.Nn d_all_outside_above.ps d_all_outside_above.scope := ⟨rfl, rfl, rfl, by decide +kernel, rfl, by decide +kernel, by decide +kernel⟩
theorem bd_all_outside_above : BindsD d_all_outside_above := ⟨rfl, fun _ _ _ _ _ _ us hl => match us, hl with | [_, _], _ => rfl, fun _ h => nomatch h⟩
theorem sc_outside_above : FnScope d_outside_above.Nn d_outside_above.ps d_outside_above.scope := ⟨rfl, rfl, rfl, by decide +kernel, rfl, by decide +kernel, by decide +kernel⟩
theorem bd_outside_above : BindsD d_outside_above := ⟨rfl, fun _ _ _ _ _ _ us hl => match us, hl with | [_, _], _ => rfl, fun _ h => nomatch h⟩
theorem sc_above_all : FnScope d_above_all.Nn d_above_all.ps d_above_all.scope := ⟨rfl, rfl, rfl, by decide +kernel, rfl, by decide +kernel, by decide +kernel⟩
theorem bd_above_all : BindsD d_above_all := ⟨rfl, fun _ _ _ _ _ _ us hl => match us, hl with | [_, _], _ => rfl, fun _ h => nomatch h⟩
theorem sc_outside_below : FnScope d_outside_below.Nn d_outside_below.ps d_outside_below.scope := ⟨rfl, rfl, rfl, by decide +kernel, rfl, by decide +kernel, by decide +kernel⟩
theorem bd_outside_below : BindsD d_outside_below := ⟨rfl, fun _ _ _ _ _ _ us hl => match us, hl with | [_, _], _ => rfl, fun _ h => nomatch h⟩
theorem sc_is_line : FnScope d_is_line.Nn d_is_line.ps d_is_line.scope := ⟨rfl, rfl, rfl, by decide +kernel, rfl, by decide +kernel, by decide +kernel⟩
theorem bd_is_line : BindsD d_is_line := ⟨rfl, fun _ _ _ _ _ _ us hl => match us, hl with | [_, _, _], _ => rfl, fun _ h => nomatch h⟩
theorem sc_need_lines : FnScope d_need_lines.Nn d_need_lines.ps d_need_lines.scope := ⟨rfl, rfl, rfl, by decide +kernel, rfl, by decide +kernel, by decide +kernel⟩
theorem bd_need_lines : BindsD d_need_lines := ⟨rfl, fun _ _ _ _ _ _ us hl => match us, hl with | [_, _, _], _ => rfl, fun _ h => nomatch h⟩
theorem sc_greatest_outside : FnScope d_greatest_outside.Nn d_greatest_outside.ps d_greatest_outside.scope := ⟨rfl, rfl, rfl, by decide +kernel, rfl, by decide +kernel, by decide +kernel⟩
theorem bd_greatest_outside : BindsD d_greatest_outside := ⟨rfl, fun _ _ _ _ _ _ us hl => match us, hl with | [_, _], _ => rfl, List.forall_mem_cons.mpr ⟨⟨rfl, by decide, fun _ _ _ _ _ _ us ws h1 h2 => match us, ws, h1, h2 with | [], [_, _], _, _ => rfl⟩, fun _ h => nomatch h⟩⟩
theorem sc_least_outside : FnScope d_least_outside.Nn d_least_outside.ps d_least_outside.scope := ⟨rfl, rfl, rfl, by decide +kernel, rfl, by decide +kernel, by decide +kernel⟩
theorem bd_least_outside : BindsD d_least_outside := ⟨rfl, fun _ _ _ _ _ _ us hl => match us, hl with | [_, _], _ => rfl, List.forall_mem_cons.mpr ⟨⟨rfl, by decide, fun _ _ _ _ _ _ us ws h1 h2 => match us, ws, h1, h2 with | [], [_, _], _, _ => rfl⟩, fun _ h => nomatch h⟩⟩
theorem sc__law_pen : FnScope d__law_pen.Nn d__law_pen.ps d__law_pen.scope := ⟨rfl, rfl, rfl, by decide +kernel, rfl, by decide +kernel, by decide +kernel⟩
theorem bd__law_pen : BindsD d__law_pen := ⟨rfl, fun _ _ _ _ _ _ us hl => match us, hl with | [_], _ => rfl, fun _ h => nomatch h⟩
theorem sc__law_draw : FnScope d__law_draw.Nn d__law_draw.ps d__law_draw.scope := ⟨rfl, rfl, rfl, by decide +kernel, rfl, by decide +kernel, by decide +kernel⟩
theorem bd__law_draw : BindsD d__law_draw := ⟨rfl, fun _ _ _ _ _ _ us hl => match us, hl with | [_, _], _ => rfl, fun _ h => nomatch h⟩
theorem sc__law_pick : FnScope d__law_pick.Nn d__law_pick.ps d__law_pick.scope := ⟨rfl, rfl, rfl, by decide +kernel, rfl, by decide +kernel, by decide +kernel⟩
theorem bd__law_pick : BindsD d__law_pick := ⟨rfl, fun _ _ _ _ _ _ us hl => match us, hl with | [_, _], _ => rfl, fun _ h => nomatch h⟩
theorem sc__law_b_below : FnScope d__law_b_below.Nn d__law_b_below.ps d__law_b_below.scope := ⟨rfl, rfl, rfl, by decide +kernel, rfl, by decide +kernel, by decide +kernel⟩
theorem bd__law_b_below : BindsD d__law_b_below := ⟨rfl, fun _ _ _ _ _ _ us hl => match us, hl with | [_, _], _ => rfl, fun _ h => nomatch h⟩
theorem sc__law_b_key : FnScope d__law_b_key.Nn d__law_b_key.ps d__law_b_key.scope := ⟨rfl, rfl, rfl, by decide +kernel, rfl, by decide +kernel, by decide +kernel⟩
theorem bd__law_b_key : BindsD d__law_b_key := ⟨rfl, fun _ _ _ _ _ _ us hl => match us, hl with | [_], _ => rfl, fun _ h => nomatch h⟩
theorem sc__law_b_sorted : FnScope d__law_b_sorted.Nn d__law_b_sorted.ps d__law_b_sorted.scope := ⟨rfl, rfl, rfl, by decide +kernel, rfl, by decide +kernel, by decide +kernel⟩
theorem bd__law_b_sorted : BindsD d__law_b_sorted := ⟨rfl, fun _ _ _ _ _ _ us hl => match us, hl with | [_], _ => rfl, fun _ h => nomatch h⟩
theorem sc__law_b_least : FnScope d__law_b_least.Nn d__law_b_least.ps d__law_b_least.scope := ⟨rfl, rfl, rfl, by decide +kernel, rfl, by decide +kernel, by decide +kernel⟩
theorem bd__law_b_least : BindsD d__law_b_least := ⟨rfl, fun _ _ _ _ _ _ us hl => match us, hl with | [_], _ => rfl, fun _ h => nomatch h⟩
theorem sc__law_b_greatest : FnScope d__law_b_greatest.Nn d__law_b_greatest.ps d__law_b_greatest.scope := ⟨rfl, rfl, rfl, by decide +kernel, rfl, by decide +kernel, by decide +kernel⟩
theorem bd__law_b_greatest : BindsD d__law_b_greatest := ⟨rfl, fun _ _ _ _ _ _ us hl => match us, hl with | [_], _ => rfl, fun _ h => nomatch h⟩
theorem sc__law_b_lines : FnScope d__law_b_lines.Nn d__law_b_lines.ps d__law_b_lines.scope := ⟨rfl, rfl, rfl, by decide +kernel, rfl, by decide +kernel, by decide +kernel⟩
theorem bd__law_b_lines : BindsD d__law_b_lines := ⟨rfl, fun _ _ _ _ _ _ us hl => match us, hl with | [_, _, _, _], _ => rfl, fun _ h => nomatch h⟩
theorem sc__law_b_parted : FnScope d__law_b_parted.Nn d__law_b_parted.ps d__law_b_parted.scope := ⟨rfl, rfl, rfl, by decide +kernel, rfl, by decide +kernel, by decide +kernel⟩
theorem bd__law_b_parted : BindsD d__law_b_parted := ⟨rfl, fun _ _ _ _ _ _ us hl => match us, hl with | [_, _, _, _], _ => rfl, fun _ h => nomatch h⟩
theorem sc_law : FnScope d_law.Nn d_law.ps d_law.scope := ⟨rfl, rfl, rfl, by decide +kernel, rfl, by decide +kernel, by decide +kernel⟩
theorem bd_law : BindsD d_law := ⟨rfl, fun _ _ _ _ _ _ us hl => match us, hl with | [_], _ => rfl, fun _ h => nomatch h⟩
section
variable {K : PySem.W.Frag} {h : Heap} {mg : PySem.Str → Option Value} {w : World}
theorem fd_is_integer (c : He.SaysD fa fn K) : ∃ fd, FunD K d_is_integer.x d_is_integer.x d_is_integer.params d_is_integer.body d_is_integer.scope [] [] (He.ga K "is_integer") fd := c.def_ 0 (d := dd 1 "is_integer") rfl
theorem fd_is_within (c : He.SaysD fa fn K) : ∃ fd, FunD K d_is_within.x d_is_within.x d_is_within.params d_is_within.body d_is_within.scope [] [] (He.ga K "is_within") fd := c.def_ 1 (d := dd 2 "is_within") rfl
theorem fd_is_listed (c : He.SaysD fa fn K) : ∃ fd, FunD K d_is_listed.x d_is_listed.x d_is_listed.params d_is_listed.body d_is_listed.scope [] [] (He.ga K "is_listed") fd := c.def_ 2 (d := dd 3 "is_listed") rfl
theorem fd_is_row (c : He.SaysD fa fn K) : ∃ fd, FunD K d_is_row.x d_is_row.x d_is_row.params d_is_row.body d_is_row.scope [] [] (He.ga K "is_row") fd := c.def_ 3 (d := dd 4 "is_row") rfl
theorem fd_is_no_greater (c : He.SaysD fa fn K) : ∃ fd, FunD K d_is_no_greater.x d_is_no_greater.x d_is_no_greater.params d_is_no_greater.body d_is_no_greater.scope [] [] (He.ga K "is_no_greater") fd := c.def_ 4 (d := dd 14 "is_no_greater") rfl
theorem fd_order_of (c : He.SaysD fa fn K) : ∃ fd, FunD K d_order_of.x d_order_of.x d_order_of.params d_order_of.body d_order_of.scope [] [] (He.ga K "order_of") fd := c.def_ 5 (d := dd 15 "order_of") rfl
theorem fd_ordered (c : He.SaysD fa fn K) : ∃ fd, FunD K d_ordered.x d_ordered.x d_ordered.params d_ordered.body d_ordered.scope [] [] (He.ga K "ordered") fd := c.def_ 6 (d := dd 16 "ordered") rfl
theorem fd_least_among (c : He.SaysD fa fn K) : ∃ fd, FunD K d_least_among.x d_least_among.x d_least_among.params d_least_among.body d_least_among.scope [] [] (He.ga K "least_among") fd := c.def_ 7 (d := dd 17 "least_among") rfl
theorem fd_greatest_among (c : He.SaysD fa fn K) : ∃ fd, FunD K d_greatest_among.x d_greatest_among.x d_greatest_among.params d_greatest_among.body d_greatest_among.scope [] [] (He.ga K "greatest_among") fd := c.def_ 8 (d := dd 18 "greatest_among") rfl
theorem fd_with_entry (c : He.SaysD fa fn K) : ∃ fd, FunD K d_with_entry.x d_with_entry.x d_with_entry.params d_with_entry.body d_with_entry.scope [] [] (He.ga K "with_entry") fd := c.def_ 9 (d := dd 19 "with_entry") rfl
theorem fd_joined (c : He.SaysD fa fn K) : ∃ fd, FunD K d_joined.x d_joined.x d_joined.params d_joined.body d_joined.scope [] [] (He.ga K "joined") fd := c.def_ 10 (d := dd 20 "joined") rfl
theorem fd_met (c : He.SaysD fa fn K) : ∃ fd, FunD K d_met.x d_met.x d_met.params d_met.body d_met.scope [] [] (He.ga K "met") fd := c.def_ 11 (d := dd 21 "met") rfl
theorem fd_let_lines (c : He.SaysD fa fn K) : ∃ fd, FunD K d_let_lines.x d_let_lines.x d_let_lines.params d_let_lines.body d_let_lines.scope [] [] (He.ga K "let_lines") fd := c.def_ 12 (d := dd 22 "let_lines") rfl
theorem fd_below_none (c : He.SaysD fa fn K) : ∃ fd, FunD K d_below_none.x d_below_none.x d_below_none.params d_below_none.body d_below_none.scope [] [] (He.ga K "below_none") fd := c.def_ 13 (d := dd 23 "below_none") rfl
theorem fd_all_outside_above (c : He.SaysD fa fn K) : ∃ fd, FunD K d_all_outside_above.x d_all_outside_above.x d_all_outside_above.params d_all_outside_above.body d_all_outside_above.scope [] [] (He.ga K "all_outside_above") fd := c.def_ 14 (d := dd 24 "all_outside_above") rfl
theorem fd_outside_above (c : He.SaysD fa fn K) : ∃ fd, FunD K d_outside_above.x d_outside_above.x d_outside_above.params d_outside_above.body d_outside_above.scope [] [] (He.ga K "outside_above") fd := c.def_ 15 (d := dd 25 "outside_above") rfl
theorem fd_above_all (c : He.SaysD fa fn K) : ∃ fd, FunD K d_above_all.x d_above_all.x d_above_all.params d_above_all.body d_above_all.scope [] [] (He.ga K "above_all") fd := c.def_ 16 (d := dd 26 "above_all") rfl
theorem fd_outside_below (c : He.SaysD fa fn K) : ∃ fd, FunD K d_outside_below.x d_outside_below.x d_outside_below.params d_outside_below.body d_outside_below.scope [] [] (He.ga K "outside_below") fd := c.def_ 17 (d := dd 27 "outside_below") rfl
theorem fd_is_line (c : He.SaysD fa fn K) : ∃ fd, FunD K d_is_line.x d_is_line.x d_is_line.params d_is_line.body d_is_line.scope [] [] (He.ga K "is_line") fd := c.def_ 18 (d := dd 28 "is_line") rfl
theorem fd_need_lines (c : He.SaysD fa fn K) : ∃ fd, FunD K d_need_lines.x d_need_lines.x d_need_lines.params d_need_lines.body d_need_lines.scope [] [] (He.ga K "need_lines") fd := c.def_ 19 (d := dd 29 "need_lines") rfl
theorem fd_greatest_outside (c : He.SaysD fa fn K) : ∃ fd, FunD K d_greatest_outside.x d_greatest_outside.x d_greatest_outside.params d_greatest_outside.body d_greatest_outside.scope [] [] (He.ga K "greatest_outside") fd := c.def_ 20 (d := dd 30 "greatest_outside") rfl
theorem fd_least_outside (c : He.SaysD fa fn K) : ∃ fd, FunD K d_least_outside.x d_least_outside.x d_least_outside.params d_least_outside.body d_least_outside.scope [] [] (He.ga K "least_outside") fd := c.def_ 21 (d := dd 31 "least_outside") rfl
theorem fd__law_pen (c : He.SaysD fa fn K) : ∃ fd, FunD K d__law_pen.x d__law_pen.x d__law_pen.params d__law_pen.body d__law_pen.scope [] [] (He.ga K "_law_pen") fd := c.def_ 22 (d := dd 33 "_law_pen") rfl
theorem fd__law_draw (c : He.SaysD fa fn K) : ∃ fd, FunD K d__law_draw.x d__law_draw.x d__law_draw.params d__law_draw.body d__law_draw.scope [] [] (He.ga K "_law_draw") fd := c.def_ 23 (d := dd 34 "_law_draw") rfl
theorem fd__law_pick (c : He.SaysD fa fn K) : ∃ fd, FunD K d__law_pick.x d__law_pick.x d__law_pick.params d__law_pick.body d__law_pick.scope [] [] (He.ga K "_law_pick") fd := c.def_ 24 (d := dd 35 "_law_pick") rfl
theorem fd__law_b_below (c : He.SaysD fa fn K) : ∃ fd, FunD K d__law_b_below.x d__law_b_below.x d__law_b_below.params d__law_b_below.body d__law_b_below.scope [] [] (He.ga K "_law_b_below") fd := c.def_ 25 (d := dd 36 "_law_b_below") rfl
theorem fd__law_b_key (c : He.SaysD fa fn K) : ∃ fd, FunD K d__law_b_key.x d__law_b_key.x d__law_b_key.params d__law_b_key.body d__law_b_key.scope [] [] (He.ga K "_law_b_key") fd := c.def_ 26 (d := dd 37 "_law_b_key") rfl
theorem fd__law_b_sorted (c : He.SaysD fa fn K) : ∃ fd, FunD K d__law_b_sorted.x d__law_b_sorted.x d__law_b_sorted.params d__law_b_sorted.body d__law_b_sorted.scope [] [] (He.ga K "_law_b_sorted") fd := c.def_ 27 (d := dd 38 "_law_b_sorted") rfl
theorem fd__law_b_least (c : He.SaysD fa fn K) : ∃ fd, FunD K d__law_b_least.x d__law_b_least.x d__law_b_least.params d__law_b_least.body d__law_b_least.scope [] [] (He.ga K "_law_b_least") fd := c.def_ 28 (d := dd 39 "_law_b_least") rfl
theorem fd__law_b_greatest (c : He.SaysD fa fn K) : ∃ fd, FunD K d__law_b_greatest.x d__law_b_greatest.x d__law_b_greatest.params d__law_b_greatest.body d__law_b_greatest.scope [] [] (He.ga K "_law_b_greatest") fd := c.def_ 29 (d := dd 40 "_law_b_greatest") rfl
theorem fd__law_b_lines (c : He.SaysD fa fn K) : ∃ fd, FunD K d__law_b_lines.x d__law_b_lines.x d__law_b_lines.params d__law_b_lines.body d__law_b_lines.scope [] [] (He.ga K "_law_b_lines") fd := c.def_ 30 (d := dd 41 "_law_b_lines") rfl
theorem fd__law_b_parted (c : He.SaysD fa fn K) : ∃ fd, FunD K d__law_b_parted.x d__law_b_parted.x d__law_b_parted.params d__law_b_parted.body d__law_b_parted.scope [] [] (He.ga K "_law_b_parted") fd := c.def_ 31 (d := dd 42 "_law_b_parted") rfl
theorem fd_law (c : He.SaysD fa fn K) : ∃ fd, FunD K d_law.x d_law.x d_law.params d_law.body d_law.scope [] [] (He.ga K "law") fd := c.def_ 32 (d := dd 43 "law") rfl
theorem dfs_ok (X : K.In h) (G : h.Ns mainGlobals mg) (c : He.SaysD fa fn K) : ∀ D ∈ defs, DfOk (nm0 K w) K mg D := by
  refine List.forall_mem_cons.mpr ⟨let ⟨fd, F⟩ := fd_is_integer c; DfOk.of sc_is_integer (He.glo_ok X G (c.fact 0 (f := .glo "is_integer") rfl)) F bd_is_integer, ?_⟩
  refine List.forall_mem_cons.mpr ⟨let ⟨fd, F⟩ := fd_is_within c; DfOk.of sc_is_within (He.glo_ok X G (c.fact 1 (f := .glo "is_within") rfl)) F bd_is_within, ?_⟩
  refine List.forall_mem_cons.mpr ⟨let ⟨fd, F⟩ := fd_is_listed c; DfOk.of sc_is_listed (He.glo_ok X G (c.fact 2 (f := .glo "is_listed") rfl)) F bd_is_listed, ?_⟩
  refine List.forall_mem_cons.mpr ⟨let ⟨fd, F⟩ := fd_is_row c; DfOk.of sc_is_row (He.glo_ok X G (c.fact 3 (f := .glo "is_row") rfl)) F bd_is_row, ?_⟩
  refine List.forall_mem_cons.mpr ⟨let ⟨fd, F⟩ := fd_is_no_greater c; DfOk.of sc_is_no_greater (He.glo_ok X G (c.fact 4 (f := .glo "is_no_greater") rfl)) F bd_is_no_greater, ?_⟩
  refine List.forall_mem_cons.mpr ⟨let ⟨fd, F⟩ := fd_order_of c; DfOk.of sc_order_of (He.glo_ok X G (c.fact 5 (f := .glo "order_of") rfl)) F bd_order_of, ?_⟩
  refine List.forall_mem_cons.mpr ⟨let ⟨fd, F⟩ := fd_ordered c; DfOk.of sc_ordered (He.glo_ok X G (c.fact 6 (f := .glo "ordered") rfl)) F bd_ordered, ?_⟩
  refine List.forall_mem_cons.mpr ⟨let ⟨fd, F⟩ := fd_least_among c; DfOk.of sc_least_among (He.glo_ok X G (c.fact 7 (f := .glo "least_among") rfl)) F bd_least_among, ?_⟩
  refine List.forall_mem_cons.mpr ⟨let ⟨fd, F⟩ := fd_greatest_among c; DfOk.of sc_greatest_among (He.glo_ok X G (c.fact 8 (f := .glo "greatest_among") rfl)) F bd_greatest_among, ?_⟩
  refine List.forall_mem_cons.mpr ⟨let ⟨fd, F⟩ := fd_with_entry c; DfOk.of sc_with_entry (He.glo_ok X G (c.fact 9 (f := .glo "with_entry") rfl)) F bd_with_entry, ?_⟩
  refine List.forall_mem_cons.mpr ⟨let ⟨fd, F⟩ := fd_joined c; DfOk.of sc_joined (He.glo_ok X G (c.fact 10 (f := .glo "joined") rfl)) F bd_joined, ?_⟩
  refine List.forall_mem_cons.mpr ⟨let ⟨fd, F⟩ := fd_met c; DfOk.of sc_met (He.glo_ok X G (c.fact 11 (f := .glo "met") rfl)) F bd_met, ?_⟩
  refine List.forall_mem_cons.mpr ⟨let ⟨fd, F⟩ := fd_let_lines c; DfOk.of sc_let_lines (He.glo_ok X G (c.fact 12 (f := .glo "let_lines") rfl)) F bd_let_lines, ?_⟩
  refine List.forall_mem_cons.mpr ⟨let ⟨fd, F⟩ := fd_below_none c; DfOk.of sc_below_none (He.glo_ok X G (c.fact 13 (f := .glo "below_none") rfl)) F bd_below_none, ?_⟩
  refine List.forall_mem_cons.mpr ⟨let ⟨fd, F⟩ := fd_all_outside_above c; DfOk.of sc_all_outside_above (He.glo_ok X G (c.fact 14 (f := .glo "all_outside_above") rfl)) F bd_all_outside_above, ?_⟩
  refine List.forall_mem_cons.mpr ⟨let ⟨fd, F⟩ := fd_outside_above c; DfOk.of sc_outside_above (He.glo_ok X G (c.fact 15 (f := .glo "outside_above") rfl)) F bd_outside_above, ?_⟩
  refine List.forall_mem_cons.mpr ⟨let ⟨fd, F⟩ := fd_above_all c; DfOk.of sc_above_all (He.glo_ok X G (c.fact 16 (f := .glo "above_all") rfl)) F bd_above_all, ?_⟩
  refine List.forall_mem_cons.mpr ⟨let ⟨fd, F⟩ := fd_outside_below c; DfOk.of sc_outside_below (He.glo_ok X G (c.fact 17 (f := .glo "outside_below") rfl)) F bd_outside_below, ?_⟩
  refine List.forall_mem_cons.mpr ⟨let ⟨fd, F⟩ := fd_is_line c; DfOk.of sc_is_line (He.glo_ok X G (c.fact 18 (f := .glo "is_line") rfl)) F bd_is_line, ?_⟩
  refine List.forall_mem_cons.mpr ⟨let ⟨fd, F⟩ := fd_need_lines c; DfOk.of sc_need_lines (He.glo_ok X G (c.fact 19 (f := .glo "need_lines") rfl)) F bd_need_lines, ?_⟩
  refine List.forall_mem_cons.mpr ⟨let ⟨fd, F⟩ := fd_greatest_outside c; DfOk.of sc_greatest_outside (He.glo_ok X G (c.fact 20 (f := .glo "greatest_outside") rfl)) F bd_greatest_outside, ?_⟩
  refine List.forall_mem_cons.mpr ⟨let ⟨fd, F⟩ := fd_least_outside c; DfOk.of sc_least_outside (He.glo_ok X G (c.fact 21 (f := .glo "least_outside") rfl)) F bd_least_outside, ?_⟩
  refine List.forall_mem_cons.mpr ⟨let ⟨fd, F⟩ := fd__law_pen c; DfOk.of sc__law_pen (He.glo_ok X G (c.fact 22 (f := .glo "_law_pen") rfl)) F bd__law_pen, ?_⟩
  refine List.forall_mem_cons.mpr ⟨let ⟨fd, F⟩ := fd__law_draw c; DfOk.of sc__law_draw (He.glo_ok X G (c.fact 23 (f := .glo "_law_draw") rfl)) F bd__law_draw, ?_⟩
  refine List.forall_mem_cons.mpr ⟨let ⟨fd, F⟩ := fd__law_pick c; DfOk.of sc__law_pick (He.glo_ok X G (c.fact 24 (f := .glo "_law_pick") rfl)) F bd__law_pick, ?_⟩
  refine List.forall_mem_cons.mpr ⟨let ⟨fd, F⟩ := fd__law_b_below c; DfOk.of sc__law_b_below (He.glo_ok X G (c.fact 25 (f := .glo "_law_b_below") rfl)) F bd__law_b_below, ?_⟩
  refine List.forall_mem_cons.mpr ⟨let ⟨fd, F⟩ := fd__law_b_key c; DfOk.of sc__law_b_key (He.glo_ok X G (c.fact 26 (f := .glo "_law_b_key") rfl)) F bd__law_b_key, ?_⟩
  refine List.forall_mem_cons.mpr ⟨let ⟨fd, F⟩ := fd__law_b_sorted c; DfOk.of sc__law_b_sorted (He.glo_ok X G (c.fact 27 (f := .glo "_law_b_sorted") rfl)) F bd__law_b_sorted, ?_⟩
  refine List.forall_mem_cons.mpr ⟨let ⟨fd, F⟩ := fd__law_b_least c; DfOk.of sc__law_b_least (He.glo_ok X G (c.fact 28 (f := .glo "_law_b_least") rfl)) F bd__law_b_least, ?_⟩
  refine List.forall_mem_cons.mpr ⟨let ⟨fd, F⟩ := fd__law_b_greatest c; DfOk.of sc__law_b_greatest (He.glo_ok X G (c.fact 29 (f := .glo "_law_b_greatest") rfl)) F bd__law_b_greatest, ?_⟩
  refine List.forall_mem_cons.mpr ⟨let ⟨fd, F⟩ := fd__law_b_lines c; DfOk.of sc__law_b_lines (He.glo_ok X G (c.fact 30 (f := .glo "_law_b_lines") rfl)) F bd__law_b_lines, ?_⟩
  refine List.forall_mem_cons.mpr ⟨let ⟨fd, F⟩ := fd__law_b_parted c; DfOk.of sc__law_b_parted (He.glo_ok X G (c.fact 31 (f := .glo "_law_b_parted") rfl)) F bd__law_b_parted, ?_⟩
  refine List.forall_mem_cons.mpr ⟨let ⟨fd, F⟩ := fd_law c; DfOk.of sc_law (He.glo_ok X G (c.fact 32 (f := .glo "law") rfl)) F bd_law, ?_⟩
  exact fun _ h => nomatch h
theorem cs_ok (X : K.In h) (G : h.Ns mainGlobals mg) (c : He.SaysD fa fn K) : ∀ p ∈ cs, ∃ v u, mg p.1 = some u ∧ RelV v u ∧ ∀ Z, Rp (nm0 K w) Z p.2 v := by
  refine List.forall_mem_cons.mpr ⟨let ⟨t, e⟩ := He.int_ok X G (c.fact 33 (f := .int "MOST_WIDE" (10)) rfl); ⟨.int _, _, e, ⟨t, rfl⟩, fun Z => .int _⟩, ?_⟩
  refine List.forall_mem_cons.mpr ⟨let ⟨t, e⟩ := He.int_ok X G (c.fact 34 (f := .int "MOST_LINES" (400)) rfl); ⟨.int _, _, e, ⟨t, rfl⟩, fun Z => .int _⟩, ?_⟩
  refine List.forall_mem_cons.mpr ⟨let ⟨t, e⟩ := He.int_ok X G (c.fact 35 (f := .int "MOST_ASKED" (60)) rfl); ⟨.int _, _, e, ⟨t, rfl⟩, fun Z => .int _⟩, ?_⟩
  exact fun _ h => nomatch h
theorem fr_ok (X : K.In h) (G : h.Ns mainGlobals mg) (c : He.SaysD fa fn K) : ∀ x ∈ fr, mg x = none := by
  refine List.forall_mem_cons.mpr ⟨He.free_ok X G (c.fact 36 (f := .free "abs") rfl), ?_⟩
  refine List.forall_mem_cons.mpr ⟨He.free_ok X G (c.fact 37 (f := .free "all") rfl), ?_⟩
  refine List.forall_mem_cons.mpr ⟨He.free_ok X G (c.fact 38 (f := .free "any") rfl), ?_⟩
  refine List.forall_mem_cons.mpr ⟨He.free_ok X G (c.fact 39 (f := .free "bool") rfl), ?_⟩
  refine List.forall_mem_cons.mpr ⟨He.free_ok X G (c.fact 40 (f := .free "dict") rfl), ?_⟩
  refine List.forall_mem_cons.mpr ⟨He.free_ok X G (c.fact 41 (f := .free "enumerate") rfl), ?_⟩
  refine List.forall_mem_cons.mpr ⟨He.free_ok X G (c.fact 42 (f := .free "int") rfl), ?_⟩
  refine List.forall_mem_cons.mpr ⟨He.free_ok X G (c.fact 43 (f := .free "isinstance") rfl), ?_⟩
  refine List.forall_mem_cons.mpr ⟨He.free_ok X G (c.fact 44 (f := .free "len") rfl), ?_⟩
  refine List.forall_mem_cons.mpr ⟨He.free_ok X G (c.fact 45 (f := .free "list") rfl), ?_⟩
  refine List.forall_mem_cons.mpr ⟨He.free_ok X G (c.fact 46 (f := .free "max") rfl), ?_⟩
  refine List.forall_mem_cons.mpr ⟨He.free_ok X G (c.fact 47 (f := .free "min") rfl), ?_⟩
  refine List.forall_mem_cons.mpr ⟨He.free_ok X G (c.fact 48 (f := .free "range") rfl), ?_⟩
  refine List.forall_mem_cons.mpr ⟨He.free_ok X G (c.fact 49 (f := .free "set") rfl), ?_⟩
  refine List.forall_mem_cons.mpr ⟨He.free_ok X G (c.fact 50 (f := .free "sorted") rfl), ?_⟩
  refine List.forall_mem_cons.mpr ⟨He.free_ok X G (c.fact 51 (f := .free "sum") rfl), ?_⟩
  refine List.forall_mem_cons.mpr ⟨He.free_ok X G (c.fact 52 (f := .free "tuple") rfl), ?_⟩
  refine List.forall_mem_cons.mpr ⟨He.free_ok X G (c.fact 53 (f := .free "zip") rfl), ?_⟩
  exact fun _ h => nomatch h
theorem ts_ok (isi : List A → Option A) : ∀ D ∈ defs, T isi D.i = some (D.fnd isi 60 g) := by
  refine List.forall_mem_cons.mpr ⟨(congrArg some (e_is_integer isi)).symm, ?_⟩
  refine List.forall_mem_cons.mpr ⟨(congrArg some (e_is_within isi)).symm, ?_⟩
  refine List.forall_mem_cons.mpr ⟨(congrArg some (e_is_listed isi)).symm, ?_⟩
  refine List.forall_mem_cons.mpr ⟨(congrArg some (e_is_row isi)).symm, ?_⟩
  refine List.forall_mem_cons.mpr ⟨(congrArg some (e_is_no_greater isi)).symm, ?_⟩
  refine List.forall_mem_cons.mpr ⟨(congrArg some (e_order_of isi)).symm, ?_⟩
  refine List.forall_mem_cons.mpr ⟨(congrArg some (e_ordered isi)).symm, ?_⟩
  refine List.forall_mem_cons.mpr ⟨(congrArg some (e_least_among isi)).symm, ?_⟩
  refine List.forall_mem_cons.mpr ⟨(congrArg some (e_greatest_among isi)).symm, ?_⟩
  refine List.forall_mem_cons.mpr ⟨(congrArg some (e_with_entry isi)).symm, ?_⟩
  refine List.forall_mem_cons.mpr ⟨(congrArg some (e_joined isi)).symm, ?_⟩
  refine List.forall_mem_cons.mpr ⟨(congrArg some (e_met isi)).symm, ?_⟩
  refine List.forall_mem_cons.mpr ⟨(congrArg some (e_let_lines isi)).symm, ?_⟩
  refine List.forall_mem_cons.mpr ⟨(congrArg some (e_below_none isi)).symm, ?_⟩
  refine List.forall_mem_cons.mpr ⟨(congrArg some (e_all_outside_above isi)).symm, ?_⟩
  refine List.forall_mem_cons.mpr ⟨(congrArg some (e_outside_above isi)).symm, ?_⟩
  refine List.forall_mem_cons.mpr ⟨(congrArg some (e_above_all isi)).symm, ?_⟩
  refine List.forall_mem_cons.mpr ⟨(congrArg some (e_outside_below isi)).symm, ?_⟩
  refine List.forall_mem_cons.mpr ⟨(congrArg some (e_is_line isi)).symm, ?_⟩
  refine List.forall_mem_cons.mpr ⟨(congrArg some (e_need_lines isi)).symm, ?_⟩
  refine List.forall_mem_cons.mpr ⟨(congrArg some (e_greatest_outside isi)).symm, ?_⟩
  refine List.forall_mem_cons.mpr ⟨(congrArg some (e_least_outside isi)).symm, ?_⟩
  refine List.forall_mem_cons.mpr ⟨(congrArg some (e__law_pen isi)).symm, ?_⟩
  refine List.forall_mem_cons.mpr ⟨(congrArg some (e__law_draw isi)).symm, ?_⟩
  refine List.forall_mem_cons.mpr ⟨(congrArg some (e__law_pick isi)).symm, ?_⟩
  refine List.forall_mem_cons.mpr ⟨(congrArg some (e__law_b_below isi)).symm, ?_⟩
  refine List.forall_mem_cons.mpr ⟨(congrArg some (e__law_b_key isi)).symm, ?_⟩
  refine List.forall_mem_cons.mpr ⟨(congrArg some (e__law_b_sorted isi)).symm, ?_⟩
  refine List.forall_mem_cons.mpr ⟨(congrArg some (e__law_b_least isi)).symm, ?_⟩
  refine List.forall_mem_cons.mpr ⟨(congrArg some (e__law_b_greatest isi)).symm, ?_⟩
  refine List.forall_mem_cons.mpr ⟨(congrArg some (e__law_b_lines isi)).symm, ?_⟩
  refine List.forall_mem_cons.mpr ⟨(congrArg some (e__law_b_parted isi)).symm, ?_⟩
  refine List.forall_mem_cons.mpr ⟨(congrArg some (e_law isi)).symm, ?_⟩
  exact fun _ h => nomatch h
end
open PySem PySem.W PySem.Calls PyProof.Rows
/-- the law, of what its plain function gives -/
theorem holds_of (hl : ∀ zs : List Int, zs.length ≤ 63 → ∃ st, PV.run (T isiN) 20 32 [.v (.lst (zs.map A.int))] [] = .ok (.v (.bl true)) st) : PySem.Challenge.rw_everyswap_k31_whole_what_lies_outside_of.Holds := by
  w_on; o_law
  refine HandSHeadRun.head_any (r := R) (q := view R.prog [43]) (H := hk) (ob := ob) (M := 3000) (loose := loose) (d := HandSHeadRun.topDef R.prog 43) (kwd := []) ob_eq
    (by kernel_rfl) (fun s => by kernel_rfl) run_top (by kernel_rfl) (by kernel_rfl) (by kernel_rfl) (by rfl) (by first | assumption | decide +kernel) (by decide +kernel) ⟨rfl, rfl, rfl, rfl, rfl, by decide +kernel⟩ ?hw ?hc
  case hw => w_witness2
  case hc =>
    refine PV.walkF (l := PySem.Challenge.rw_everyswap_k31_whole_what_lies_outside_of) (n := 63) (k := 60) (x := "script") rfl (by decide) (by kernel_rfl) ⟨rfl, by decide, by decide⟩ ?F
    intro w mg fa h Y G hmg0
    obtain ⟨K, KX, c⟩ := Y
    have hmg : mg ("law" : PySem.Str) = some (.ref fa) := by
      have e : (HandSHeadRun.topDef R.prog 43).name = ("law" : PySem.Str) := by kernel_rfl
      rw [← e]
      exact hmg0
    have e2 := hmg.symm.trans (He.glo_ok KX G (c.fact 32 (f := .glo "law") rfl))
    cases e2
    obtain ⟨fd, F⟩ := fd_law c
    obtain ⟨sp, q1, q2, q3⟩ := PV.law_ok (P := PySem.Challenge.rw_everyswap_k31_whole_what_lies_outside_of.prog) (N := nm0 K w) (w := w) (mg := mg) (isi := isiN) (n := 60) (d := 20) (m := 63) (defs := defs) (cs := cs) (fr := fr) (T := T isiN) (D := d_law) rfl rfl
      (fun X Ft => b_isi Ft (isiN_ok K w)) (dfs_ok KX G c) (ts_ok isiN) (cs_ok KX G c) (fr_ok KX G c) (List.mem_of_getElem? (show defs[32]? = some d_law from rfl)) rfl hmg F bd_law hl
    exact ⟨K, fd, sp, KX, q1, q2, q3⟩
end PV.K31
end
set_option linter.all false
set_option Elab.async false
set_option maxRecDepth 100000
/-! the law, handed in. -/
namespace PV.K31
theorem lawT : LawT (T isiN) (fun _ => false) (fun _ _ => none) 72065 9807 34811 6783 := by
  refine ⟨⟨rfl, rfl, rfl, rfl⟩, ⟨rfl, rfl, rfl, rfl, rfl, rfl, rfl, rfl, rfl, rfl, rfl, rfl, rfl, rfl⟩, ⟨rfl, rfl, rfl, rfl⟩, ⟨rfl, by omega, by omega, by omega⟩, ⟨rfl, rfl, rfl, rfl, rfl⟩, rfl, rfl, rfl, rfl⟩
theorem ends : PySem.Challenge.rw_everyswap_k31_whole_what_lies_outside_of.Holds :=
  holds_of fun zs hz => whole_ok (d := 13) lawT rfl hz
end PV.K31
theorem PySem.Challenge.cw_everyswap_k31_whole_what_lies_outside_of_holds : PySem.Challenge.rw_everyswap_k31_whole_what_lies_outside_of.Holds := by
  exact PV.K31.ends
