import PyProof.Rows.All
import Wide.All
import OpenK.AllK
import Wide.FinOn
import HandS.ForMost
import HandS.Wide
import HandS.Style
import HandS.Dict
import HandS.More
import HandS.TupAny
import HandS.Deep
import PyProof.CallFns
import PyProof.ReprRoads
import HandS.Exc
import HandS.Star
import HandS.HeadWalk
import HandS.Iter
import HandS.Text
import HandS.Codes
import HandS.IsInst
import HandS.Conv
import HandS.Comp
import HandS.Defaults
import HandS.HeadHook2
import HandS.NamedTupGet
import HandS.HeadHook1
import HandS.HeadEnd
import PyProof.ReprLen
import HandS.Head0
import HandS.Head1
import HandS.Head2
import HandS.HeadHook4
import PySem.Challenge.RW_cutranks_k75_long_systems
set_option Elab.async false
set_option linter.all false
set_option maxRecDepth 100000
set_option maxHeartbeats 4000000
/-! Mini, part 1: values, cells, syntax, the interpreter (plain Lean, nothing of the model). -/
namespace Mn

/-- a value: tuples, frozen lists, frozen instances and frozen dicts by value; what may change stands in a cell -/
inductive LV where
  | non | bl (b : Bool) | int (i : Int) | str (s : List Nat)
  | tup (xs : List LV) | lst (xs : List LV)
  | obj (c : String) (fs : List String) (vs : List LV)
  | dct (ks vs : List LV)
  | ref (n : Nat)
  /-- the law's script -/
  | scr (ns : List Int)

mutual
def LV.same : LV → LV → Bool
  | .non, .non => true
  | .bl a, .bl b => a == b
  | .int a, .int b => a == b
  | .str a, .str b => a == b
  | .tup a, .tup b => LV.sames a b
  | .lst a, .lst b => LV.sames a b
  | .obj c f a, .obj d g b => c == d && (f == g && LV.sames a b)
  | .dct k a, .dct l b => LV.sames k l && LV.sames a b
  | .ref a, .ref b => a == b
  | .scr a, .scr b => a == b
  | _, _ => false
termination_by structural a => a
def LV.sames : List LV → List LV → Bool
  | [], [] => true
  | a :: as, b :: bs => LV.same a b && LV.sames as bs
  | _, _ => false
termination_by structural a => a
end
mutual
theorem LV.same_eq : ∀ a b : LV, LV.same a b = true → a = b
  | .non, b, h => by cases b <;> simp [LV.same] at h; rfl
  | .bl a, b, h => by cases b <;> simp [LV.same] at h; rw [h]
  | .int a, b, h => by cases b <;> simp [LV.same] at h; rw [h]
  | .str a, b, h => by cases b <;> simp [LV.same] at h; rw [h]
  | .tup a, b, h => by cases b <;> simp [LV.same] at h; rw [LV.sames_eq _ _ h]
  | .lst a, b, h => by cases b <;> simp [LV.same] at h; rw [LV.sames_eq _ _ h]
  | .obj c f a, b, h => by cases b <;> simp [LV.same] at h; rw [h.1, h.2.1, LV.sames_eq _ _ h.2.2]
  | .dct k a, b, h => by cases b <;> simp [LV.same] at h; rw [LV.sames_eq _ _ h.1, LV.sames_eq _ _ h.2]
  | .ref a, b, h => by cases b <;> simp [LV.same] at h; rw [h]
  | .scr a, b, h => by cases b <;> simp [LV.same] at h; rw [h]
theorem LV.sames_eq : ∀ a b : List LV, LV.sames a b = true → a = b
  | [], b, h => by cases b <;> simp [LV.sames] at h; rfl
  | a :: as, b, h => by
    cases b <;> simp [LV.sames] at h
    rw [LV.same_eq _ _ h.1, LV.sames_eq _ _ h.2]
end
mutual
theorem LV.same_refl : ∀ a : LV, LV.same a a = true
  | .non => rfl
  | .bl a => by simp [LV.same]
  | .int a => by simp [LV.same]
  | .str a => by simp [LV.same]
  | .tup a => by simp [LV.same, LV.sames_refl a]
  | .lst a => by simp [LV.same, LV.sames_refl a]
  | .obj c f a => by simp [LV.same, LV.sames_refl a]
  | .dct k a => by simp [LV.same, LV.sames_refl k, LV.sames_refl a]
  | .ref a => by simp [LV.same]
  | .scr a => by simp [LV.same]
theorem LV.sames_refl : ∀ a : List LV, LV.sames a a = true
  | [] => rfl
  | a :: as => by simp [LV.sames, LV.same_refl a, LV.sames_refl as]
end
instance : DecidableEq LV := fun a b => if h : LV.same a b = true then .isTrue (LV.same_eq a b h) else .isFalse fun e => h (by rw [e]; exact LV.same_refl b)

/-- what stands in a cell -/
inductive LO where
  | lst (xs : List LV) | dct (kvs : List (LV × LV)) | ins (c : String) (fs : List (String × LV)) | dead
abbrev Hh := List LO

/-- an exception: its class, its fields -/
structure LX where
  cls : String
  fs : List (String × LV)

inductive Res (α : Type) where
  | ok (a : α) (h : Hh) | exc (x : LX) (h : Hh) | bad
def M (α : Type) := Hh → Res α
namespace M
def pure {α : Type} (a : α) : M α := fun h => .ok a h
def bind {α β : Type} (m : M α) (k : α → M β) : M β := fun h => match m h with
  | .ok a h' => k a h'
  | .exc x h' => .exc x h'
  | .bad => .bad
def bad {α : Type} : M α := fun _ => .bad
def ofOpt {α : Type} : Option α → M α
  | some a => pure a
  | none => bad
def chk (b : Bool) : M Unit := if b = true then pure () else bad
end M
instance : Monad M where
  pure := M.pure
  bind := M.bind

theorem bind_ok {α β : Type} {m : M α} {k : α → M β} {h h' : Hh} {a : α} (e : m h = .ok a h') : (m >>= k) h = k a h' := by
  show M.bind m k h = _
  unfold M.bind
  rw [e]
theorem bind_exc {α β : Type} {m : M α} {k : α → M β} {h h' : Hh} {x : LX} (e : m h = .exc x h') : (m >>= k) h = .exc x h' := by
  show M.bind m k h = _
  unfold M.bind
  rw [e]
theorem bind_bad {α β : Type} {m : M α} {k : α → M β} {h : Hh} (e : m h = .bad) : (m >>= k) h = .bad := by
  show M.bind m k h = _
  unfold M.bind
  rw [e]
theorem bind_assoc' {α β γ : Type} (m : M α) (f : α → M β) (g : β → M γ) : (m >>= f) >>= g = m >>= fun x => f x >>= g := by
  funext h
  cases e : m h with
  | ok a h' =>
    rw [bind_ok (k := fun x => f x >>= g) e]
    cases e2 : f a h' with
    | ok b h2 => rw [bind_ok (m := m >>= f) (a := b) (h' := h2) ((bind_ok e).trans e2), bind_ok e2]
    | exc x h2 => rw [bind_exc (m := m >>= f) (x := x) (h' := h2) ((bind_ok e).trans e2), bind_exc e2]
    | bad => rw [bind_bad (m := m >>= f) ((bind_ok e).trans e2), bind_bad e2]
  | exc x h' => rw [bind_exc (k := fun x => f x >>= g) e, bind_exc (m := m >>= f) (bind_exc e)]
  | bad => rw [bind_bad (k := fun x => f x >>= g) e, bind_bad (m := m >>= f) (bind_bad e)]
theorem pure_bind' {α β : Type} (a : α) (f : α → M β) : (pure a : M α) >>= f = f a := by
  funext h
  exact bind_ok (m := (pure a : M α)) rfl
/-- what must hold so that m ends well with Q -/
def wp {α : Type} (m : M α) (h : Hh) (Q : α → Hh → Prop) : Prop := match m h with
  | .ok a h' => Q a h'
  | _ => False
theorem wp_pure {α : Type} {a : α} {h : Hh} {Q : α → Hh → Prop} : wp (M.pure a) h Q ↔ Q a h := Iff.rfl
theorem wp_pure' {α : Type} {a : α} {h : Hh} {Q : α → Hh → Prop} : wp (Pure.pure a) h Q ↔ Q a h := Iff.rfl
theorem wp_bad {α : Type} {h : Hh} {Q : α → Hh → Prop} : wp (M.bad) h Q ↔ False := Iff.rfl
theorem wp_bind {α β : Type} {m : M α} {k : α → M β} {h : Hh} {Q : β → Hh → Prop} : wp (m >>= k) h Q ↔ wp m h fun a h' => wp (k a) h' Q := by
  show (match M.bind m k h with | .ok a h' => Q a h' | _ => False) ↔ (match m h with | .ok a h' => wp (k a) h' Q | _ => False)
  unfold M.bind
  cases m h <;> rfl
theorem wp_mono {α : Type} {m : M α} {h : Hh} {Q Q' : α → Hh → Prop} (w : wp m h Q) (i : ∀ a h', Q a h' → Q' a h') : wp m h Q' := by
  unfold wp at *
  cases e : m h with
  | ok a h' => rw [e] at w; exact i a h' w
  | exc x h' => rw [e] at w; exact w
  | bad => rw [e] at w; exact w
theorem wp_ofOpt {α : Type} {o : Option α} {h : Hh} {Q : α → Hh → Prop} : wp (M.ofOpt o) h Q ↔ ∃ a, o = some a ∧ Q a h := by
  cases o with
  | none => exact ⟨fun z => z.elim, fun ⟨_, e, _⟩ => nomatch e⟩
  | some a => exact ⟨fun z => ⟨a, rfl, z⟩, fun ⟨_, e, q⟩ => by cases e; exact q⟩
theorem wp_chk {b : Bool} {h : Hh} {Q : Unit → Hh → Prop} : wp (M.chk b) h Q ↔ b = true ∧ Q () h := by
  cases b with
  | true => exact ⟨fun z => ⟨rfl, z⟩, fun z => z.2⟩
  | false => exact ⟨fun z => z.elim, fun z => nomatch z.1⟩

/-! ### syntax -/
inductive BOp where | add | sub | mul | fdiv | mod | pow
inductive COp where | eq | ne | lt | le | gt | ge | inn | nin | is | isn
  deriving DecidableEq
inductive BFn where | len | abs | min | max | sum | any | all | int | list | listM | tuple
inductive BMth where | append | join
/-- built-in methods of a list, without arguments -/
inductive BM0 where | clear
/-- the built-in types that isinstance asks for -/
inductive IK where | list | tuple
mutual
inductive E where
  | loc (i : Nat)
  | cst (v : LV)
  | glo (x : String)
  | bin (op : BOp) (a b : E)
  | neg (a : E)
  | not (a : E)
  | and (a b : E)
  | or (a b : E)
  | cmp (op : COp) (a b : E)
  | chain (op op' : COp) (a b c : E)
  | reprEq (a b : E)
  | ite (c a b : E)
  | call (f : String) (args : Es) (ks : List String) (kws : Es)
  | make (c : String) (args : Es) (ks : List String) (kws : Es)
  | bcall (f : BFn) (args : Es)
  | meth (o : E) (m : String) (args : Es) (ks : List String) (kws : Es)
  | bmeth (o : E) (m : BMth) (args : Es)
  | attr (o : E) (f : String)
  | sub (o i : E)
  | slice (o : E) (lo hi : Es)
  | tup (es : Es)
  | list (mu : Bool) (es : Es)
  | comp (mu : Bool) (own : List Nat) (elt : E) (tg : T) (it : I) (cond : Es)
  | frz (e : E)
  | never
  | lenO (o : E)
  | bm0 (o : E) (m : BM0)
  | dict1 (k v : E)
  | rev (mu : Bool) (o : E)
  | isI (k : IK) (o : E)
  | ins (o i v : E)
  | lrng (mu : Bool) (a : E)
inductive Es where
  | nil
  | cons (e : E) (r : Es)
  | star (e : E) (r : Es)
inductive I where
  | seq (e : E)
  | range1 (a : E)
  | range2 (a b : E)
  | enum (e : E)
  | zip (a b : E)
inductive T where
  | nm (i : Nat)
  | tup (ts : Ts)
  | attr (o : E) (f : String)
  | sub (o i : E)
inductive Ts where
  | nil
  | cons (t : T) (r : Ts)
end
mutual
inductive S where
  | expr (e : E)
  | asg (t : T) (e : E)
  | aug (i : Nat) (op : BOp) (e : E)
  | forS (t : T) (it : I) (body : Ss)
  | whileS (c : E) (body : Ss)
  | ifS (c : E) (a b : Ss)
  | ret (e : E)
  | retN
  | pass
  | brk
  | cont
  | never
inductive Ss where
  | nil
  | cons (s : S) (r : Ss)
end
/-- a def: the names of its slots (parameters first: positional, keyword-only, the star's), how many are positional, their defaults, keyword-only ones with defaults, whether there is a star parameter -/
structure Fn where
  names : List String
  npos : Nat
  dfl : List LV
  kwo : List (String × LV)
  star : Bool
  body : Ss
/-- a class: methods (by name: the def's key), fields that its instances may have, constants, properties -/
structure Cl where
  init : String
  meths : List (String × String)
  fields : List String
structure Prog where
  defs : List String
  fns : List (String × Fn)
  cls : List (String × Cl)
  glob : List (String × LV)
  wn : Nat

/-! ### the interpreter -/
abbrev Env := List (Option LV)
/-- a call: the def's key, positional and keyword arguments -/
abbrev CF := String → List LV → List (String × LV) → M LV

def line : Nat := 16777216
/-- what an object's address or value holds -/
def view (h : Hh) : LV → Option LO
  | .ref n => h[n]?
  | .lst xs => some (.lst xs)
  | .obj c fs vs => some (.ins c (fs.zip vs))
  | .dct ks vs => some (.dct (ks.zip vs))
  | _ => none
/-- a list's or a tuple's items -/
def seqOf (h : Hh) (v : LV) : Option (List LV) := match v with
  | .tup xs => some xs
  | .scr ns => some (ns.map .int)
  | _ => match view h v with
    | some (.lst xs) => some xs
    | _ => none
def lstOf (h : Hh) (v : LV) : Option (List LV) := match view h v with
  | some (.lst xs) => some xs
  | _ => none
def mkL (mu : Bool) (xs : List LV) : M LV := fun h => if xs.length ≤ line then (if mu = true then .ok (.ref h.length) (h ++ [.lst xs]) else .ok (.lst xs) h) else .bad
def mkT (xs : List LV) : M LV := fun h => if xs.length ≤ line then .ok (.tup xs) h else .bad
def setC (n : Nat) (o : LO) : M Unit := fun h => .ok () (h.set n o)
def mapM' {α β : Type} (f : α → M β) : List α → M (List β)
  | [] => pure []
  | v :: vs => do let y ← f v; let ys ← mapM' f vs; pure (y :: ys)
/-- a list, a tuple, a dict, an instance, all within it, for good -/
def frzV : Nat → LV → M LV
  | 0, _ => M.bad
  | k + 1, v => match v with
    | .ref n => fun h => match h[n]? with
      | some (.lst xs) => (do let ys ← mapM' (frzV k) xs; pure (.lst ys) : M LV) (h.set n .dead)
      | some (.ins c fs) => (do let ys ← mapM' (frzV k) (fs.map (·.2)); pure (.obj c (fs.map (·.1)) ys) : M LV) (h.set n .dead)
      | _ => .bad
    | .tup xs => do let ys ← mapM' (frzV k) xs; pure (.tup ys)
    | .lst xs => do let ys ← mapM' (frzV k) xs; pure (.lst ys)
    | .obj c fs vs => do let ys ← mapM' (frzV k) vs; pure (.obj c fs ys)
    | .dct ks vs => do let ys ← mapM' (frzV k) vs; pure (.dct ks ys)
    | v => pure v
end Mn

set_option Elab.async false
set_option linter.all false
set_option maxRecDepth 100000
set_option maxHeartbeats 4000000
/-! Mini, part 2: the interpreter. -/
namespace Mn
open PySem (PyData Str)

def BIG : Int := 1606938044258990275541962092341162602522202993782792835301376
def smallI (i : Int) : Bool := decide (-BIG < i) && decide (i < BIG)

/-! ### data -/
/-- the data of a value: what it holds, read to the bottom -/
def mapO {α β : Type} (f : α → Option β) : List α → Option (List β)
  | [] => some []
  | v :: vs => match f v with
    | some y => match mapO f vs with
      | some ys => some (y :: ys)
      | none => none
    | none => none
def dat : Nat → Hh → LV → Option LV
  | 0, _, _ => none
  | k + 1, h, v => match v with
    | .ref n => match h[n]? with
      | some (.lst xs) => (mapO (dat k h) xs).map .lst
      | _ => none
    | .tup xs => (mapO (dat k h) xs).map .tup
    | .lst xs => (mapO (dat k h) xs).map .lst
    | .obj _ _ _ => none
    | .dct _ _ => none
    | .scr _ => none
    | v => some v
mutual
def pd : LV → PyData
  | .non => .none
  | .bl b => .bool b
  | .int i => .int i
  | .str s => .str ⟨s.toArray⟩
  | .tup xs => .tuple (pds xs)
  | .lst xs => .list (pds xs)
  | _ => .none
termination_by structural v => v
def pds : List LV → List PyData
  | [] => []
  | v :: vs => pd v :: pds vs
termination_by structural v => v
end
def DEEP : Nat := 20
/-- a == b of data -/
def eqv (a b : LV) : Bool := PyData.eqv (pd a) (pd b)
def eqM (a b : LV) : M Bool := fun h => match dat DEEP h a with
  | some x => match dat DEEP h b with
    | some y => .ok (eqv x y) h
    | none => .bad
  | none => .bad
/-- what repr(a) shows -/
def reprD (a : LV) : M Str := fun h => match dat DEEP h a with
  | some x => if (pd x).showable = true ∧ (pd x).shown.length ≤ line then .ok (pd x).shown h else .bad
  | none => .bad

/-- a list's or a tuple's items, as they stand -/
def seqM (v : LV) : M (List LV) := fun h => match seqOf h v with
  | some ys => .ok ys h
  | none => .bad
/-- a list's items -/
def lstM (v : LV) : M (List LV) := fun h => match lstOf h v with
  | some ys => .ok ys h
  | none => .bad
theorem lstM_some {v : LV} {h : Hh} {ys : List LV} (e : lstOf h v = some ys) : lstM v h = .ok ys h := by
  unfold lstM
  rw [e]
theorem lstM_none {v : LV} {h : Hh} (e : lstOf h v = none) : lstM v h = .bad := by
  unfold lstM
  rw [e]
theorem seqM_some {v : LV} {h : Hh} {ys : List LV} (e : seqOf h v = some ys) : seqM v h = .ok ys h := by
  unfold seqM
  rw [e]
theorem seqM_none {v : LV} {h : Hh} (e : seqOf h v = none) : seqM v h = .bad := by
  unfold seqM
  rw [e]
/-! ### operators -/
def binV (op : BOp) (a b : LV) : M LV := fun h => match op with
  | .add => match a, b with
    | .int i, .int j => .ok (.int (i + j)) h
    | .str s, .str t => if s.length + t.length ≤ line then .ok (.str (s ++ t)) h else .bad
    | .tup xs, .tup ys => if xs.length + ys.length ≤ line then .ok (.tup (xs ++ ys)) h else .bad
    | a, b => match lstOf h a, lstOf h b with
      | some xs, some ys => if xs.length + ys.length ≤ line then .ok (.lst (xs ++ ys)) h else .bad
      | _, _ => .bad
  | .sub => match a, b with
    | .int i, .int j => .ok (.int (i - j)) h
    | _, _ => .bad
  | .mul => match a, b with
    | .int i, .int j => if smallI i = true ∧ smallI j = true then .ok (.int (i * j)) h else .bad
    | .ref n, .int j => match h[n]? with
      | some (.lst xs) => if 0 ≤ j ∧ j ≤ line ∧ xs.length * j.toNat ≤ line then .ok (.lst (List.replicate j.toNat xs).flatten) h else .bad
      | _ => .bad
    | _, _ => .bad
  | .fdiv => match a, b with
    | .int i, .int j => if 0 < j ∧ j < BIG then .ok (.int (i / j)) h else .bad
    | _, _ => .bad
  | .mod => match a, b with
    | .int i, .int j => if 0 < j then .ok (.int (i % j)) h else .bad
    | _, _ => .bad
  | .pow => match a, b with
    | .int i, .int j => if 0 ≤ j ∧ j ≤ 1000 ∧ i.natAbs ≤ 1000 then .ok (.int (i ^ j.toNat)) h else .bad
    | _, _ => .bad
def negV : LV → M LV
  | .int i => pure (.int (-i))
  | _ => M.bad
@[irreducible] def lenC : LV → M LV
  | .int i => if 0 ≤ i ∧ i < 9223372036854775808 then pure (.int i) else M.bad
  | _ => M.bad
/-- a op= b of what is not changed in place -/
def augV (op : BOp) (a b : LV) : M LV := match op, a, b with
  | .add, .int i, .int j => pure (.int (i + j))
  | .sub, .int i, .int j => pure (.int (i - j))
  | _, _, _ => M.bad
/-- a dict's key -/
def keyB : LV → Bool
  | .int _ => true
  | .str _ => true
  | _ => false
def lookD : List (LV × LV) → LV → Option LV
  | [], _ => none
  | (a, b) :: r, k => if a = k then some b else lookD r k
def putD (kvs : List (LV × LV)) (k v : LV) : List (LV × LV) :=
  if (kvs.any fun p => decide (p.1 = k)) = true then kvs.map (fun p => if p.1 = k then (p.1, v) else p) else kvs ++ [(k, v)]
def dctOf (h : Hh) (o : LV) : Option (List (LV × LV)) := match o with
  | .ref n => match h[n]? with
    | some (.dct kvs) => some kvs
    | _ => none
  | _ => none
/-- a new dict of one pair -/
def mkD (x y : LV) : M LV := fun h => if keyB x = true then .ok (.ref h.length) (h ++ [.dct [(x, y)]]) else .bad
def revV (mu : Bool) (v : LV) : M LV := do let xs ← lstM v; mkL mu xs.reverse
def insV (o i v : LV) : M LV := fun h => match o, i with
  | .ref n, .int i => match h[n]? with
    | some (.lst xs) => if xs.length < line ∧ 0 ≤ i ∧ i ≤ line then .ok .non (h.set n (.lst (xs.take i.toNat ++ [v] ++ xs.drop i.toNat))) else .bad
    | _ => .bad
  | _, _ => .bad
def isIV (k : IK) (v : LV) : M Bool := fun h => match v with
  | .ref n => match h[n]? with
    | some (.lst _) => .ok (match k with | .list => true | .tuple => false) h
    | _ => .bad
  | .lst _ => .ok (match k with | .list => true | .tuple => false) h
  | .tup _ => .ok (match k with | .list => false | .tuple => true) h
  | .int _ => .ok false h
  | .non => .ok false h
  | _ => .bad
/-- x in xs: data in a list or a tuple of data; a sign in a text -/
def inM0 (a b : LV) : M Bool := fun h => match b with
  | .str t => match a with
    | .str [c] => .ok (decide (c ∈ t)) h
    | _ => .bad
  | b => match seqOf h b with
    | some xs => match dat DEEP h a, mapO (dat DEEP h) xs with
      | some x, some ys => .ok (ys.any fun y => eqv y x) h
      | _, _ => .bad
    | none => .bad
def inM (a b : LV) : M Bool := fun h => match dctOf h b with
  | some kvs => if keyB a = true then .ok (lookD kvs a).isSome h else .bad
  | none => inM0 a b h
def isN : LV → Bool
  | .non => true
  | _ => false
def cmpV (op : COp) (a b : LV) : M Bool := match op with
  | .eq => eqM a b
  | .ne => do let r ← eqM a b; pure (!r)
  | .lt => fun h => match a, b with
    | .int i, .int j => .ok (decide (i < j)) h
    | .str s, .str t => .ok (decide (s < t)) h
    | _, _ => .bad
  | .le => fun h => match a, b with
    | .int i, .int j => .ok (decide (i ≤ j)) h
    | _, _ => .bad
  | .gt => fun h => match a, b with
    | .int i, .int j => .ok (decide (j < i)) h
    | _, _ => .bad
  | .ge => fun h => match a, b with
    | .int i, .int j => .ok (decide (j ≤ i)) h
    | _, _ => .bad
  | .inn => inM a b
  | .nin => do let r ← inM a b; pure (!r)
  | .is => match b with
    | .non => pure (isN a)
    | .bl t => match a with
      | .bl s => pure (decide (s = t))
      | _ => M.bad
    | _ => M.bad
  | .isn => match b with
    | .non => pure (!isN a)
    | .bl t => match a with
      | .bl s => pure (!decide (s = t))
      | _ => M.bad
    | _ => M.bad
def subV0 (o i : LV) : M LV := fun h => match i with
  | .int i => match o with
    | .str s => if s.length ≤ line then (match L2.atI s i with
      | some c => .ok (.str [c]) h
      | none => .bad) else .bad
    | o => match seqOf h o with
      | some xs => match L2.atI xs i with
        | some v => .ok v h
        | none => .bad
      | none => .bad
  | _ => .bad
def subV (o i : LV) : M LV := fun h => match dctOf h o with
  | some kvs => if keyB i = true then (match lookD kvs i with
    | some v => .ok v h
    | none => .bad) else .bad
  | none => subV0 o i h
def cut {α : Type} (xs : List α) (lo hi : Option Int) : List α := (xs.drop (HT.sIx xs.length 0 lo)).take (HT.sIx xs.length xs.length hi - HT.sIx xs.length 0 lo)
def part : List LV → Option (Option Int)
  | [] => some none
  | [.int i] => some (some i)
  | _ => none
def sliceV (o : LV) (lo hi : Option Int) : M LV := fun h => match o with
  | .str s => if s.length ≤ line then .ok (.str (cut s lo hi)) h else .bad
  | .tup xs => .ok (.tup (cut xs lo hi)) h
  | .scr ns => .ok (.lst ((cut ns lo hi).map .int)) h
  | o => match lstOf h o with
    | some xs => .ok (.lst (cut xs lo hi)) h
    | none => .bad
/-- o[i] = v -/
def setV0 (o i v : LV) : M Unit := fun h => match o, i with
  | .ref n, .int i => match h[n]? with
    | some (.lst xs) => match L2.ixN xs.length i with
      | some j => .ok () (h.set n (.lst (xs.set j v)))
      | none => .bad
    | _ => .bad
  | _, _ => .bad
def setV (o i v : LV) : M Unit := fun h => match o with
  | .ref n => match h[n]? with
    | some (.dct kvs) => if keyB i = true ∧ kvs.length < line then .ok () (h.set n (.dct (putD kvs i v))) else .bad
    | _ => setV0 (.ref n) i v h
  | _ => .bad
def putF (f : String) (v : LV) : List (String × LV) → List (String × LV)
  | [] => [(f, v)]
  | (g, w) :: r => if g = f then (f, v) :: r else (g, w) :: putF f v r
def isField (P : Prog) (c f : String) : Bool := match P.cls.lookup c with
  | some k => k.fields.contains f
  | none => false
def getA (P : Prog) (o : LV) (f : String) : M LV := fun h => match view h o with
  | some (.ins c fs) => if isField P c f = true then (match fs.lookup f with
    | some v => .ok v h
    | none => .bad) else .bad
  | _ => .bad
def methM (P : Prog) (o : LV) (m : String) : M String := fun h => match view h o with
  | some (.ins c fs) => match P.cls.lookup c with
    | some k => match k.meths.lookup m with
      | some f => if (fs.lookup m).isNone = true then .ok f h else .bad
      | none => .bad
    | none => .bad
  | _ => .bad
def setA (P : Prog) (o : LV) (f : String) (v : LV) : M Unit := fun h => match o with
  | .ref n => match h[n]? with
    | some (.ins c fs) => if isField P c f = true ∧ fs.length < 1000 then .ok () (h.set n (.ins c (putF f v fs))) else .bad
    | _ => .bad
  | _ => .bad

/-- a new instance -/
def newI (c : String) : M Nat := fun h => .ok h.length (h ++ [.ins c []])
/-! ### built-ins -/
def intsL : List LV → Option (List Int)
  | [] => some []
  | .int i :: r => (intsL r).map (i :: ·)
  | _ => none
def bls : List LV → Option (List Bool)
  | [] => some []
  | .bl b :: r => (bls r).map (b :: ·)
  | _ => none
def strsL : List LV → Option (List (List Nat))
  | [] => some []
  | .str s :: r => (strsL r).map (s :: ·)
  | _ => none
def maxL : List Int → Option Int
  | [] => none
  | a :: r => some (r.foldl (fun m x => if m < x then x else m) a)
def minL : List Int → Option Int
  | [] => none
  | a :: r => some (r.foldl (fun m x => if x < m then x else m) a)
def joinL (sep : List Nat) : List (List Nat) → List Nat
  | [] => []
  | [a] => a
  | a :: b :: r => a ++ (sep ++ joinL sep (b :: r))
def bcallV (f : BFn) (args : List LV) : M LV := fun h => match f with
  | .len => match args with
    | [.str s] => if s.length ≤ line then .ok (.int s.length) h else .bad
    | [v] => match seqOf h v with
      | some xs => .ok (.int xs.length) h
      | none => .bad
    | _ => .bad
  | .abs => match args with
    | [.int i] => .ok (.int (if i < 0 then -i else i)) h
    | _ => .bad
  | .min => match args with
    | [.int i, .int j] => .ok (.int (if j < i then j else i)) h
    | _ => .bad
  | .max => match args with
    | [.int i, .int j] => .ok (.int (if j > i then j else i)) h
    | _ => .bad
  | .sum => match args with
    | [v] => match lstOf h v with
      | some xs => match intsL xs with
        | some ns => .ok (.int ns.sum) h
        | none => .bad
      | none => .bad
    | _ => .bad
  | .any => match args with
    | [v] => match lstOf h v with
      | some xs => match bls xs with
        | some bs => .ok (.bl (bs.any id)) h
        | none => .bad
      | none => .bad
    | _ => .bad
  | .all => match args with
    | [v] => match lstOf h v with
      | some xs => match bls xs with
        | some bs => .ok (.bl (bs.all id)) h
        | none => .bad
      | none => .bad
    | _ => .bad
  | .int => match args with
    | [.int i] => .ok (.int i) h
    | _ => .bad
  | .list => match args with
    | [v] => match seqOf h v with
      | some xs => .ok (.lst xs) h
      | none => .bad
    | _ => .bad
  | .listM => match args with
    | [v] => match seqOf h v with
      | some xs => mkL true xs h
      | none => .bad
    | _ => .bad
  | .tuple => match args with
    | [v] => match seqOf h v with
      | some xs => .ok (.tup xs) h
      | none => .bad
    | _ => .bad
def bmethV (m : BMth) (o : LV) (args : List LV) : M LV := fun h => match m with
  | .append => match o, args with
    | .ref n, [v] => match h[n]? with
      | some (.lst xs) => if xs.length < line then .ok .non (h.set n (.lst (xs ++ [v]))) else .bad
      | _ => .bad
    | _, _ => .bad
  | .join => match o, args with
    | .str s, [v] => match seqOf h v with
      | some xs => match strsL xs with
        | some ts => if (ts.map (·.length)).sum + ts.length * s.length ≤ line then .ok (.str (joinL s ts)) h else .bad
        | none => .bad
      | none => .bad
    | _, _ => .bad

def bm0V (m : BM0) (o : LV) : M LV := fun h => match m with
  | .clear => match o with
    | .ref n => match h[n]? with
      | some (.lst _) => .ok .non (h.set n (.lst []))
      | _ => .bad
    | _ => .bad
/-- the object of a built-in type's method -/
def chkM (m : BMth) (o : LV) : M Unit := fun h => match m with
  | .append => if (lstOf h o).isSome = true then .ok () h else .bad
  | .join => match o with
    | .str _ => .ok () h
    | _ => .bad

/-! ### walks -/
/-- a walk's items, and whether they stand still -/
abbrev Wk := List LV × (Hh → Bool)
def still (v : LV) (xs : List LV) : Hh → Bool := match v with
  | .ref n => fun h => match h[n]? with
    | some (.lst ys) => LV.sames ys xs
    | _ => false
  | _ => fun _ => true
def walkV (v : LV) : M Wk := fun h => match v with
  | .str s => .ok (s.map fun c => .str [c], fun _ => true) h
  | v => match seqOf h v with
    | some xs => .ok (xs, still v xs) h
    | none => .bad
def rangeL (i j : Int) : List LV := (List.range (j - i).toNat).map fun (k : Nat) => .int (i + k)
@[irreducible] def rangeOk (i j : Int) : Bool := decide (-4611686018427387904 ≤ i) && (decide (i < 4611686018427387904) && (decide (-4611686018427387904 ≤ j) && decide (j < 4611686018427387904)))
def enumL : Nat → List LV → List LV
  | _, [] => []
  | n, x :: r => .tup [.int n, x] :: enumL (n + 1) r
def zipL : List LV → List LV → List LV
  | x :: r, y :: q => .tup [x, y] :: zipL r q
  | _, _ => []
/-- a truth -/
def toB : LV → M Bool
  | .bl b => pure b
  | _ => M.bad
/-- nothing is raised in a comprehension -/
def noX {α : Type} (m : M α) : M α := fun h => match m h with
  | .exc _ _ => .bad
  | r => r
def tupV : LV → M (List LV)
  | .tup xs => pure xs
  | _ => M.bad
def lenT : Ts → Nat
  | .nil => 0
  | .cons _ r => lenT r + 1
inductive Fl where
  | nx | rt (v : LV) | bk | ct
def chkH (p : Hh → Bool) : M Unit := fun h => if p h = true then .ok () h else .bad
def forL (still : Hh → Bool) (bind : LV → Env → M Env) (body : Env → M (Fl × Env)) : List LV → Env → M (Fl × Env)
  | [], env => do chkH still; pure (.nx, env)
  | x :: xs, env => do
    chkH still
    let env ← bind x env
    let r ← body env
    match r.1 with
    | .nx => forL still bind body xs r.2
    | .ct => forL still bind body xs r.2
    | .bk => pure (.nx, r.2)
    | .rt v => pure (.rt v, r.2)
def whileL (cond : Env → M LV) (body : Env → M (Fl × Env)) : Nat → Env → M (Fl × Env)
  | 0, _ => M.bad
  | n + 1, env => do
    let x ← cond env
    let c ← toB x
    match c with
    | true => do
      let r ← body env
      match r.1 with
      | .nx => whileL cond body n r.2
      | .ct => whileL cond body n r.2
      | .bk => pure (.nx, r.2)
      | .rt v => pure (.rt v, r.2)
    | false => pure (.nx, env)
/-- a comprehension's turns: acc is what is made so far -/
def compL (still : Hh → Bool) (bind : LV → Env → M Env) (cond : Env → M Bool) (elt : Env → M LV) (env : Env) : List LV → List LV → M (List LV)
  | [], acc => do chkH still; pure acc
  | x :: xs, acc => do
    chkH still
    let e ← bind x env
    let b ← cond e
    match b with
    | true => do
      let v ← elt e
      M.chk (decide (acc.length < line))
      compL still bind cond elt env xs (acc ++ [v])
    | false => compL still bind cond elt env xs acc
def wipeE (env : Env) : List Nat → Env
  | [] => env
  | v :: vs => (wipeE env vs).set v none
section
variable (P : Prog) (cf : CF)
mutual
def evE : E → Env → M LV
  | .loc i, env => match env[i]? with
    | some (some v) => pure v
    | _ => M.bad
  | .cst v, _ => pure v
  | .glo x, _ => M.ofOpt (P.glob.lookup x)
  | .bin op a b, env => do let x ← evE a env; let y ← evE b env; binV op x y
  | .neg a, env => do
    let x ← evE a env
    negV x
  | .not a, env => do let x ← evE a env; let b ← toB x; pure (.bl (!b))
  | .and a b, env => do
    let x ← evE a env
    let c ← toB x
    match c with
    | true => evE b env
    | false => pure (.bl false)
  | .or a b, env => do
    let x ← evE a env
    let c ← toB x
    match c with
    | true => pure (.bl true)
    | false => evE b env
  | .cmp op a b, env => do let x ← evE a env; let y ← evE b env; let r ← cmpV op x y; pure (.bl r)
  | .chain op op' a b c, env => do
    let x ← evE a env
    let y ← evE b env
    let r ← cmpV op x y
    match r with
    | true => do let z ← evE c env; let r ← cmpV op' y z; pure (.bl r)
    | false => pure (.bl false)
  | .reprEq a b, env => do let x ← evE a env; let s ← reprD x; let y ← evE b env; let t ← reprD y; pure (.bl (decide (s = t)))
  | .ite c a b, env => do
    let x ← evE c env
    let c ← toB x
    match c with
    | true => evE a env
    | false => evE b env
  | .call f args ks kws, env => do let xs ← evs args env; let ys ← evs kws env; cf f xs (ks.zip ys)
  | .make c args ks kws, env => do
    let xs ← evs args env
    let ys ← evs kws env
    match P.cls.lookup c with
    | some k => do
      let n ← newI c
      let r ← cf k.init (.ref n :: xs) (ks.zip ys)
      match r with
      | .non => pure (.ref n)
      | _ => M.bad
    | none => M.bad
  | .bcall f args, env => do let xs ← evs args env; bcallV f xs
  | .meth o m args ks kws, env => do
    let x ← evE o env
    let f ← methM P x m
    let xs ← evs args env
    let ys ← evs kws env
    cf f (x :: xs) (ks.zip ys)
  | .bmeth o m args, env => do let x ← evE o env; chkM m x; let xs ← evs args env; bmethV m x xs
  | .attr o f, env => do let x ← evE o env; getA P x f
  | .sub o i, env => do let x ← evE o env; let y ← evE i env; subV x y
  | .slice o lo hi, env => do
    let x ← evE o env
    let l ← evs lo env
    let l ← M.ofOpt (part l)
    let u ← evs hi env
    let u ← M.ofOpt (part u)
    sliceV x l u
  | .tup es, env => do let xs ← evs es env; mkT xs
  | .list mu es, env => do let xs ← evs es env; mkL mu xs
  | .comp mu own elt tg it cond, env => do
    let w ← evI it env
    let xs ← noX (compL w.2 (bindT tg) (fun e => evConds cond e) (fun e => evE elt e) (wipeE env own) w.1 [])
    mkL mu xs
  | .frz e, env => do let x ← evE e env; frzV DEEP x
  | .never, _ => M.bad
  | .dict1 k v, env => do let x ← evE k env; let y ← evE v env; mkD x y
  | .rev mu o, env => do let x ← evE o env; revV mu x
  | .isI k o, env => do let x ← evE o env; let b ← isIV k x; pure (.bl b)
  | .ins o i v, env => do let x ← evE o env; chkM .append x; let y ← evE i env; let z ← evE v env; insV x y z
  | .lrng mu a, env => do
    let x ← evE a env
    match x with
    | .int j => do M.chk (decide (0 ≤ j) && decide (j ≤ line)); mkL mu (rangeL 0 j)
    | _ => M.bad
  | .bm0 o m, env => do let x ← evE o env; bm0V m x
  | .lenO o, env => do let x ← evE o env; let f ← methM P x "__len__"; let r ← cf f [x] []; lenC r
termination_by structural e => e
def evs : Es → Env → M (List LV)
  | .nil, _ => pure []
  | .cons e r, env => do let x ← evE e env; let xs ← evs r env; pure (x :: xs)
  | .star e r, env => do
    let x ← evE e env
    let ys ← seqM x
    let xs ← evs r env
    pure (ys ++ xs)
termination_by structural e => e
def evConds : Es → Env → M Bool
  | .nil, _ => pure true
  | .cons e .nil, env => do let x ← evE e env; toB x
  | _, _ => M.bad
termination_by structural e => e
def evI : I → Env → M Wk
  | .seq e, env => do let x ← evE e env; walkV x
  | .range1 a, env => do
    let x ← evE a env
    match x with
    | .int j => do M.chk (rangeOk 0 j); pure (rangeL 0 j, fun _ => true)
    | _ => M.bad
  | .range2 a b, env => do
    let x ← evE a env
    let y ← evE b env
    match x, y with
    | .int i, .int j => do M.chk (rangeOk i j); pure (rangeL i j, fun _ => true)
    | _, _ => M.bad
  | .enum e, env => do
    let x ← evE e env
    let ys ← lstM x
    pure (enumL 0 ys, still x ys)
  | .zip a b, env => do
    let x ← evE a env
    let y ← evE b env
    let xs ← lstM x
    let ys ← lstM y
    pure (zipL xs ys, fun h => still x xs h && still y ys h)
termination_by structural e => e
def bindT : T → LV → Env → M Env
  | .nm i, v, env => pure (env.set i (some v))
  | .tup ts, v, env => do let xs ← tupV v; M.chk (decide (xs.length = lenT ts)); bindTs ts xs env
  | .attr o f, v, env => do let x ← evE o env; setA P x f v; pure env
  | .sub o i, v, env => do let x ← evE o env; let y ← evE i env; setV x y v; pure env
termination_by structural e => e
def bindTs : Ts → List LV → Env → M Env
  | .nil, [], env => pure env
  | .cons t r, v :: vs, env => do let env ← bindT t v env; bindTs r vs env
  | _, _, _ => M.bad
termination_by structural e => e
end
mutual
def exS : S → Env → M (Fl × Env)
  | .expr e, env => do let _ ← evE P cf e env; pure (.nx, env)
  | .asg t e, env => do let x ← evE P cf e env; let env ← bindT P cf t x env; pure (.nx, env)
  | .aug i op e, env => do
    let x ← evE P cf (.loc i) env
    let y ← evE P cf e env
    let z ← augV op x y
    pure (.nx, env.set i (some z))
  | .forS t it body, env => do
    let w ← evI P cf it env
    forL w.2 (bindT P cf t) (fun e => exSs body e) w.1 env
  | .whileS c body, env => whileL (evE P cf c) (fun e => exSs body e) P.wn env
  | .ifS c a b, env => do
    let x ← evE P cf c env
    let c ← toB x
    match c with
    | true => exSs a env
    | false => exSs b env
  | .ret e, env => do let x ← evE P cf e env; pure (.rt x, env)
  | .retN, env => pure (.rt .non, env)
  | .pass, env => pure (.nx, env)
  | .brk, env => pure (.bk, env)
  | .cont, env => pure (.ct, env)
  | .never, _ => M.bad
termination_by structural s => s
def exSs : Ss → Env → M (Fl × Env)
  | .nil, env => pure (.nx, env)
  | .cons s r, env => do
    let x ← exS s env
    match x.1 with
    | .nx => exSs r x.2
    | f => pure (f, x.2)
termination_by structural s => s
end
end

/-! ### calls -/
def nodupS : List String → Bool
  | [] => true
  | x :: r => !r.contains x && nodupS r
/-- all values that a call brings, by name: given in place, by keyword, the defaults -/
def bindL {α κ : Type} (ps : List κ) (args : List α) (kws : List (κ × α)) (dfl : List α) (kwo : List (κ × α)) : List (κ × α) :=
  ps.zip args ++ (kws ++ ((ps.drop (ps.length - dfl.length)).zip dfl ++ kwo))
/-- the values of the parameters, in the order of the slots -/
def bindF (f : Fn) (args : List LV) (kws : List (String × LV)) : Option (List LV) :=
  let ps := f.names.take f.npos
  let ko := f.kwo.map (·.1)
  if nodupS (kws.map (·.1)) && (kws.all (fun p => (ps.contains p.1 || ko.contains p.1) && ((ps.zip args).lookup p.1).isNone) && (f.star || decide (args.length ≤ f.npos))) then
    match mapO (fun x => (bindL ps args kws f.dfl f.kwo).lookup x) (ps ++ ko) with
    | some vs => if f.star = true then (if (args.drop f.npos).length ≤ line then some (vs ++ [.tup (args.drop f.npos)]) else none) else some vs
    | none => none
  else none
/-- what a body's end gives its caller -/
def endB : Fl → M LV
  | .nx => pure .non
  | .rt v => pure v
  | _ => M.bad
def callF (P : Prog) : Nat → CF
  | 0, _, _, _ => M.bad
  | n + 1, f, args, kws => match P.fns.lookup f with
    | some fn => match bindF fn args kws with
      | some vs => do
        let r ← exSs P (callF P n) fn.body (vs.map some ++ List.replicate (fn.names.length - vs.length) none)
        endB r.1
      | none => M.bad
    | none => M.bad
end Mn

set_option Elab.async false
set_option linter.all false
set_option maxRecDepth 100000
set_option maxHeartbeats 4000000
/-! Mini, part 3: what a state of the interpreter says of an abstract heap; readings. -/
namespace Mn
open PySem PySem.Spec PyProof.Rows L2
abbrev St := L2.St
abbrev WX := Value → Option Addr → St → Hp → Prop

/-- the frozen part of the heap, the cells' addresses -/
structure Wd where
  F : Hp
  io : List Addr
  pr : List (Addr × HO)
structure Wd.le (W W' : Wd) : Prop where
  fz : ∀ (a : Addr) (o : HO), W.F a = some o → W'.F a = some o
  io : ∀ (n : Nat) (a : Addr), W.io[n]? = some a → W'.io[n]? = some a
  pr : W'.pr = W.pr
theorem Wd.le.refl {W : Wd} : W.le W := ⟨fun _ _ h => h, fun _ _ h => h, rfl⟩
theorem Wd.le.trans {A B C : Wd} (x : A.le B) (y : B.le C) : A.le C := ⟨fun a o h => y.fz a o (x.fz a o h), fun n a h => y.io n a (x.io n a h), y.pr.trans x.pr⟩

def KL (K : PySem.W.Frag) (a : Addr) (xs : List V) : Prop :=
  ∃ (o : Obj) (its : Array Value) (n : Nat), K.lookup a = some o ∧ o.cls = .type "list" ∧ o.dict = none ∧ o.data = .seq its n ∧ its.size ≤ sizeLine ∧ Vals xs its.toList
def FL (K : PySem.W.Frag) (W : Wd) (a : Addr) (xs : List V) : Prop := W.F a = some (.lst xs) ∨ KL K a xs
def strGood (s : List Nat) : Prop := ∀ c ∈ s, c < 1114112

section
variable (K : PySem.W.Frag) (ad : String → Addr)
mutual
inductive VR (W : Wd) : LV → V → Prop
  | non : VR W .non .non
  | bl (b : Bool) : VR W (.bl b) (.bl b)
  | int (i : Int) : VR W (.int i) (.int i)
  | str (s : List Nat) : strGood s → VR W (.str s) (.str ⟨s.toArray⟩)
  | tup {a : Addr} {xs : List LV} {rs : List V} : W.F a = some (.tup rs) → VRs W xs rs → VR W (.tup xs) (.ref a)
  | lst {a : Addr} {xs : List LV} {rs : List V} : W.F a = some (.lst rs) → VRs W xs rs → VR W (.lst xs) (.ref a)
  | scr {a : Addr} (ns : List Int) : FL K W a (ns.map V.int) → VR W (.scr ns) (.ref a)
  | obj {a dx : Addr} {c : String} {fs : List String} {vs : List LV} {fr : List (Str × V)} : W.F a = some (.ins (ad c) dx fr) → fr.map (·.1) = fs.map Str.ofString → VRs W vs (fr.map (·.2)) → VR W (.obj c fs vs) (.ref a)
  | ref {n : Nat} {a : Addr} : W.io[n]? = some a → VR W (.ref n) (.ref a)
inductive VRs (W : Wd) : List LV → List V → Prop
  | nil : VRs W [] []
  | cons {x : LV} {xs : List LV} {r : V} {rs : List V} : VR W x r → VRs W xs rs → VRs W (x :: xs) (r :: rs)
end
mutual
theorem VR.mono {W W' : Wd} (l : W.le W') : ∀ {x : LV} {r : V}, VR K ad W x r → VR K ad W' x r
  | _, _, .non => .non
  | _, _, .bl b => .bl b
  | _, _, .int i => .int i
  | _, _, .str s h => .str s h
  | _, _, .tup h r => .tup (l.fz _ _ h) (VRs.mono l r)
  | _, _, .lst h r => .lst (l.fz _ _ h) (VRs.mono l r)
  | _, _, .scr ns h => .scr ns (h.elim (fun z => .inl (l.fz _ _ z)) .inr)
  | _, _, .obj h e r => .obj (l.fz _ _ h) e (VRs.mono l r)
  | _, _, .ref h => .ref (l.io _ _ h)
theorem VRs.mono {W W' : Wd} (l : W.le W') : ∀ {xs : List LV} {rs : List V}, VRs K ad W xs rs → VRs K ad W' xs rs
  | _, _, .nil => .nil
  | _, _, .cons h r => .cons (VR.mono l h) (VRs.mono l r)
end
mutual
theorem VR.same {W W' : Wd} (e1 : W'.F = W.F) (e2 : W'.io = W.io) : ∀ {x : LV} {r : V}, VR K ad W x r → VR K ad W' x r
  | _, _, .non => .non
  | _, _, .bl b => .bl b
  | _, _, .int i => .int i
  | _, _, .str s h => .str s h
  | _, _, .tup h r => .tup (by rw [e1]; exact h) (VRs.same e1 e2 r)
  | _, _, .lst h r => .lst (by rw [e1]; exact h) (VRs.same e1 e2 r)
  | _, _, .scr ns h => .scr ns (h.elim (fun z => .inl (by rw [e1]; exact z)) .inr)
  | _, _, .obj h e r => .obj (by rw [e1]; exact h) e (VRs.same e1 e2 r)
  | _, _, .ref h => .ref (by rw [e2]; exact h)
theorem VRs.same {W W' : Wd} (e1 : W'.F = W.F) (e2 : W'.io = W.io) : ∀ {xs : List LV} {rs : List V}, VRs K ad W xs rs → VRs K ad W' xs rs
  | _, _, .nil => .nil
  | _, _, .cons h r => .cons (VR.same e1 e2 h) (VRs.same e1 e2 r)
end
variable {K ad}
theorem VRs.length {W : Wd} : ∀ {xs : List LV} {rs : List V}, VRs K ad W xs rs → xs.length = rs.length
  | _, _, .nil => rfl
  | _, _, .cons _ r => congrArg Nat.succ r.length
theorem VRs.append {W : Wd} : ∀ {xs ys : List LV} {rs qs : List V}, VRs K ad W xs rs → VRs K ad W ys qs → VRs K ad W (xs ++ ys) (rs ++ qs)
  | _, _, _, _, .nil, s => s
  | _, _, _, _, .cons h r, s => .cons h (r.append s)
theorem VRs.rep {W : Wd} {xs : List LV} {rs : List V} (h : VRs K ad W xs rs) : ∀ n : Nat, VRs K ad W (List.replicate n xs).flatten (List.replicate n rs).flatten
  | 0 => .nil
  | n + 1 => by
    rw [List.replicate_succ, List.replicate_succ, List.flatten_cons, List.flatten_cons]
    exact h.append (VRs.rep h n)
theorem VRs.get {W : Wd} : ∀ {xs : List LV} {rs : List V} {i : Nat} {x : LV}, VRs K ad W xs rs → xs[i]? = some x → ∃ r, rs[i]? = some r ∧ VR K ad W x r
  | _, _, _, _, .nil, e => by simp at e
  | _, _, 0, _, .cons h r, e => by simp at e; subst e; exact ⟨_, rfl, h⟩
  | _, _, i + 1, x, .cons h r, e => by
    obtain ⟨q, e1, e2⟩ := VRs.get (i := i) (x := x) r (by simpa using e)
    exact ⟨q, by simpa using e1, e2⟩
theorem VRs.getR {W : Wd} : ∀ {xs : List LV} {rs : List V} {i : Nat} {r : V}, VRs K ad W xs rs → rs[i]? = some r → ∃ x, xs[i]? = some x ∧ VR K ad W x r
  | _, _, _, _, .nil, e => by simp at e
  | _, _, 0, _, .cons h r, e => by simp at e; subst e; exact ⟨_, rfl, h⟩
  | _, _, i + 1, x, .cons h r, e => by
    obtain ⟨q, e1, e2⟩ := VRs.getR (i := i) (r := x) r (by simpa using e)
    exact ⟨q, by simpa using e1, e2⟩
theorem VRs.drop {W : Wd} : ∀ {xs : List LV} {rs : List V} (n : Nat), VRs K ad W xs rs → VRs K ad W (xs.drop n) (rs.drop n)
  | _, _, 0, r => r
  | _, _, _ + 1, .nil => .nil
  | _, _, n + 1, .cons _ r => VRs.drop n r
theorem VRs.take {W : Wd} : ∀ {xs : List LV} {rs : List V} (n : Nat), VRs K ad W xs rs → VRs K ad W (xs.take n) (rs.take n)
  | _, _, 0, _ => .nil
  | _, _, _ + 1, .nil => .nil
  | _, _, n + 1, .cons h r => .cons h (VRs.take n r)
theorem VRs.set {W : Wd} {x : LV} {v : V} (h : VR K ad W x v) : ∀ {xs : List LV} {rs : List V} (i : Nat), VRs K ad W xs rs → VRs K ad W (xs.set i x) (rs.set i v)
  | _, _, _, .nil => .nil
  | _, _, 0, .cons _ r => .cons h r
  | _, _, i + 1, .cons q r => .cons q (VRs.set h i r)
variable (K ad)

/-- what stands in a cell -/
def OR (W : Wd) (o : LO) (u : HO) : Prop := match o with
  | .lst xs => ∃ rs, u = .lst rs ∧ VRs K ad W xs rs
  | .ins c fs => ∃ dx fr, u = .ins (ad c) dx fr ∧ fr.map (·.1) = fs.map (fun p => Str.ofString p.1) ∧ VRs K ad W (fs.map (·.2)) (fr.map (·.2))
  | .dct kvs => ∃ qs : List (Key × V), u = .dK qs ∧ VRs K ad W (kvs.map (·.1)) (qs.map fun q => kV q.1) ∧ VRs K ad W (kvs.map (·.2)) (qs.map (·.2))
  | .dead => True
theorem OR.mono {W W' : Wd} (l : W.le W') {o : LO} {u : HO} (h : OR K ad W o u) : OR K ad W' o u := by
  cases o with
  | lst xs => obtain ⟨rs, e, r⟩ := h; exact ⟨rs, e, r.mono K ad l⟩
  | ins c fs => obtain ⟨dx, fr, e, e2, r⟩ := h; exact ⟨dx, fr, e, e2, r.mono K ad l⟩
  | dct _ => obtain ⟨qs, e, r1, r2⟩ := h; exact ⟨qs, e, r1.mono K ad l, r2.mono K ad l⟩
  | dead => trivial
structure Rel (W : Wd) (h : Hh) (H : Hp) : Prop where
  len : W.io.length = h.length
  nd : W.io.Nodup
  fz : ∀ a o, W.F a = some o → Rd H a o
  fi : ∀ a C dx fs, W.F a = some (.ins C dx fs) → H a = some (.ins C dx fs)
  dj : ∀ (n : Nat) (a : Addr) (o : LO), W.io[n]? = some a → h[n]? = some o → o ≠ .dead → W.F a = none
  cl : ∀ (n : Nat) (a : Addr) (o : LO), W.io[n]? = some a → h[n]? = some o → ∃ u, H a = some u ∧ OR K ad W o u
  pv : ∀ p ∈ W.pr, H p.1 = some p.2 ∧ W.F p.1 = none ∧ p.1 ∉ W.io
/-- an exception -/
def XR (W : Wd) (x : LX) (cls : Value) (d : Option Addr) (H : Hp) : Prop :=
  cls = .ref (ad x.cls) ∧ ∃ a fr, d = some a ∧ H a = some (.xd fr) ∧ fr.map (·.1) = x.fs.map (fun p => Str.ofString p.1) ∧ VRs K ad W (x.fs.map (·.2)) (fr.map (·.2))
/-- the slots -/
structure ER (W : Wd) (env : Env) (σ : St) : Prop where
  len : env.length = σ.length
  at_ : ∀ (i : Nat) v, env[i]? = some (some v) → ∃ r, σ[i]? = some (some r) ∧ VR K ad W v r
theorem ER.mono {W W' : Wd} (l : W.le W') {env : Env} {σ : St} (e : ER K ad W env σ) : ER K ad W' env σ := ⟨e.len, fun i v h => by
  obtain ⟨r, h1, h2⟩ := e.at_ i v h
  exact ⟨r, h1, h2.mono K ad l⟩⟩
theorem ER.set {W : Wd} {env : Env} {σ : St} (e : ER K ad W env σ) {v : LV} {r : V} (h : VR K ad W v r) (i : Nat) : ER K ad W (env.set i (some v)) (σ.set i (some r)) := by
  refine ⟨by rw [List.length_set, List.length_set, e.len], fun j w hw => ?_⟩
  by_cases hj : i = j
  · subst hj
    by_cases hi : i < env.length
    · rw [List.getElem?_set_self hi] at hw
      cases hw
      exact ⟨r, List.getElem?_set_self (by rw [← e.len]; exact hi), h⟩
    · rw [List.getElem?_eq_none (by rw [List.length_set]; omega)] at hw
      cases hw
  · rw [List.getElem?_set_ne hj] at hw ⊢
    exact e.at_ j w hw
theorem ER.setN {W : Wd} {env : Env} {σ : St} (e : ER K ad W env σ) (i : Nat) : ER K ad W (env.set i none) (σ.set i none) := by
  refine ⟨by rw [List.length_set, List.length_set, e.len], fun j w hw => ?_⟩
  by_cases hj : i = j
  · subst hj
    by_cases hi : i < env.length
    · rw [List.getElem?_set_self hi] at hw
      cases hw
    · rw [List.getElem?_eq_none (by rw [List.length_set]; omega)] at hw
      cases hw
  · rw [List.getElem?_set_ne hj] at hw ⊢
    exact e.at_ j w hw
theorem ER.wipe {W : Wd} {env : Env} {σ : St} (e : ER K ad W env σ) : ∀ vs : List Nat, ER K ad W (wipeE env vs) (L2.wipe σ vs)
  | [] => e
  | v :: vs => (ER.wipe e vs).setN K ad v
/-- what is wanted behind m -/
def Post {α β : Type} (R : Wd → α → β → Prop) (Wx : WX) (W : Wd) (σ : St) (Q : β → Hp → Prop) : Res α → Prop
  | .ok v h' => ∀ W' r H', W.le W' → Rel K ad W' h' H' → R W' v r → Q r H'
  | .exc x h' => ∀ W' cls d H', W.le W' → Rel K ad W' h' H' → XR K ad W' x cls d H' → Wx cls d σ H'
  | .bad => False
variable {K ad}
theorem Post.mono {α β : Type} {R : Wd → α → β → Prop} {Wx : WX} {W W' : Wd} {σ : St} {Q : β → Hp → Prop} (l : W.le W') : ∀ {r : Res α}, Post K ad R Wx W σ Q r → Post K ad R Wx W' σ Q r
  | .ok _ _, p => fun W2 r H l2 => p W2 r H (l.trans l2)
  | .exc _ _, p => fun W2 c d H l2 => p W2 c d H (l.trans l2)
  | .bad, p => p
theorem Post.seq {α β γ δ : Type} {R : Wd → α → β → Prop} {R2 : Wd → γ → δ → Prop} {Wx : WX} {W : Wd} {σ : St} {Q : δ → Hp → Prop} {Q1 : β → Hp → Prop} {m : M α} {k : α → M γ} {h : Hh}
    (p : Post K ad R2 Wx W σ Q ((m >>= k) h)) (n : ∀ a h1 W1 b H1, W.le W1 → Rel K ad W1 h1 H1 → R W1 a b → Post K ad R2 Wx W1 σ Q (k a h1) → Q1 b H1) : Post K ad R Wx W σ Q1 (m h) := by
  have p' : Post K ad R2 Wx W σ Q (match m h with
    | .ok a h' => k a h'
    | .exc x h' => .exc x h'
    | .bad => .bad) := p
  cases e : m h with
  | ok a h1 =>
    rw [e] at p'
    exact fun W1 b H1 l r q => n a h1 W1 b H1 l r q (Post.mono l p')
  | exc x h1 =>
    rw [e] at p'
    exact p'
  | bad =>
    rw [e] at p'
    exact p'
/-- the same where m is looked at by the proof itself -/
theorem Post.ok {α β : Type} {R : Wd → α → β → Prop} {Wx : WX} {W : Wd} {σ : St} {Q : β → Hp → Prop} {a : α} {h : Hh} {H : Hp} {r : β} (p : Post K ad R Wx W σ Q (.ok a h)) (l : Rel K ad W h H) (q : R W a r) : Q r H := p W r H .refl l q
variable (K ad)
/-! ### readings -/
def tE (m : Env → M LV) (Wx : WX) : TE := fun σ H Q => ∃ W env h, ER K ad W env σ ∧ Rel K ad W h H ∧ Post K ad (VR K ad) Wx W σ Q (m env h)
def tAr (m : Env → M (List LV)) (Wx : WX) : TA := fun σ H Q => ∃ W env h, ER K ad W env σ ∧ Rel K ad W h H ∧ Post K ad (VRs K ad) Wx W σ Q (m env h)
def tT (m : Env → M LV) (Wx : WX) : TT := fun σ H Q => ∃ W env h, ER K ad W env σ ∧ Rel K ad W h H ∧ Post K ad (fun _ b c => c = b) Wx W σ Q ((do let v ← m env; toB v : M Bool) h)
end
theorem peI {X : Cx} {e : Expr} {t t' : TE} (h : PE X e t) (i : ∀ σ H Q, t' σ H Q → t σ H Q) : PE X e t' := ⟨fun pins s σ H Q I q => h.run pins s σ H Q I (i σ H Q q)⟩
theorem ptI {X : Cx} {e : Expr} {t t' : TT} (h : PT X e t) (i : ∀ σ H Q, t' σ H Q → t σ H Q) : PT X e t' := ⟨fun pins s σ H Q I q => h.run pins s σ H Q I (i σ H Q q)⟩
theorem paI {X : Cx} {es : List Expr} {t t' : TA} (h : PA X es t) (i : ∀ σ H Q, t' σ H Q → t σ H Q) : PA X es t' := ⟨fun pos pins s σ H Q I q => h.run pos pins s σ H Q I (i σ H Q q)⟩
theorem psI {X : Cx} {e : Stmt} {t t' : TS} (h : PS X e t) (i : ∀ D σ H, t' D σ H → t D σ H) : PS X e t' := ⟨fun pins s σ H Q I q => h.run pins s σ H Q I (i Q σ H q)⟩
theorem pssI {X : Cx} {e : List Stmt} {t t' : TS} (h : PSs X e t) (i : ∀ D σ H, t' D σ H → t D σ H) : PSs X e t' := ⟨fun pins s σ H Q I q => h.run pins s σ H Q I (i Q σ H q)⟩
/-! ### cells and heaps -/
section
variable {K : PySem.W.Frag} {ad : String → Addr} {W : Wd} {h : Hh} {H : Hp}
theorem Rel.ioH (r : Rel K ad W h H) {n : Nat} {a : Addr} (e : W.io[n]? = some a) : ∃ u, H a = some u := by
  have hn : n < h.length := by
    rw [← r.len]
    exact (List.getElem?_eq_some_iff.mp e).1
  obtain ⟨u, e2, _⟩ := r.cl n a h[n] e (List.getElem?_eq_getElem hn)
  exact ⟨u, e2⟩
theorem Rel.fresh (r : Rel K ad W h H) {p : Addr} (hp : H p = none) : W.F p = none ∧ p ∉ W.io ∧ ∀ q ∈ W.pr, q.1 ≠ p := by
  refine ⟨?_, fun hm => ?_, fun q hq z => by have := (r.pv q hq).1; rw [z, hp] at this; cases this⟩
  · cases e : W.F p with
    | none => rfl
    | some o =>
      rcases r.fz p o e with z | ⟨_, z⟩ <;> (rw [hp] at z; cases z)
  · obtain ⟨n, hn, e⟩ := List.mem_iff_getElem.mp hm
    obtain ⟨u, e2⟩ := r.ioH (n := n) (a := p) (by rw [List.getElem?_eq_getElem hn, e])
    rw [hp] at e2
    cases e2
/-- an object that nobody tracks changes or comes -/
theorem Rel.junk (r : Rel K ad W h H) {p : Addr} {o : HO} (h1 : W.F p = none) (h2 : p ∉ W.io) (h3 : ∀ q ∈ W.pr, q.1 ≠ p) : Rel K ad W h (upd H p o) := by
  have ne : ∀ (n : Nat) (a : Addr), W.io[n]? = some a → a ≠ p := fun n a e z => h2 (z ▸ List.mem_of_getElem? e)
  refine ⟨r.len, r.nd, fun a u e => ?_, fun a C dx fs e => ?_, r.dj, fun n a u e1 e2 => ?_, fun q hq => ⟨(upd_ne (h3 q hq)).trans (r.pv q hq).1, (r.pv q hq).2⟩⟩
  · have : a ≠ p := fun z => by rw [z, h1] at e; cases e
    unfold Rd
    rw [upd_ne this]
    exact r.fz a u e
  · have : a ≠ p := fun z => by rw [z, h1] at e; cases e
    rw [upd_ne this]
    exact r.fi a C dx fs e
  · rw [upd_ne (ne n a e1)]
    exact r.cl n a u e1 e2
/-- the world with one more frozen object -/
def Wd.frz (W : Wd) (p : Addr) (o : HO) : Wd := ⟨upd W.F p o, W.io, W.pr⟩
theorem Wd.le_frz {W : Wd} {p : Addr} {o : HO} (h : W.F p = none) : W.le (W.frz p o) := ⟨fun a u e => by
  have : a ≠ p := fun z => by rw [z, h] at e; cases e
  exact (upd_ne this).trans e, fun _ _ e => e, rfl⟩
theorem Wd.frz_at {W : Wd} {p : Addr} {o : HO} : (W.frz p o).F p = some o := upd_same
theorem Rel.frz (r : Rel K ad W h H) {p : Addr} {o : HO} (hp : H p = some o) (h1 : W.F p = none) (h2 : ∀ (n : Nat) (u : LO), W.io[n]? = some p → h[n]? = some u → u = .dead) (h3 : ∀ q ∈ W.pr, q.1 ≠ p) : Rel K ad (W.frz p o) h H := by
  refine ⟨r.len, r.nd, fun a u e => ?_, fun a C dx fs e => ?_, fun n a u e1 e2 e3 => ?_, fun n a u e1 e2 => ?_, fun q hq => ⟨(r.pv q hq).1, (upd_ne (h3 q hq)).trans (r.pv q hq).2.1, (r.pv q hq).2.2⟩⟩
  · by_cases z : a = p
    · subst z
      have e' : upd W.F a o a = some u := e
      rw [upd_same] at e'
      cases e'
      exact .inl hp
    · exact r.fz a u ((upd_ne z).symm.trans e)
  · by_cases z : a = p
    · subst z
      have e' : upd W.F a o a = some (.ins C dx fs) := e
      rw [upd_same] at e'
      cases e'
      exact hp
    · exact r.fi a C dx fs ((upd_ne z).symm.trans e)
  · have z : a ≠ p := fun z => by
      subst z
      exact e3 (h2 n u e1 e2)
    exact (upd_ne z).trans (r.dj n a u e1 e2 e3)
  · obtain ⟨v, e3, q⟩ := r.cl n a u e1 e2
    exact ⟨v, e3, q.mono K ad (Wd.le_frz h1)⟩
/-- a new object, frozen at once -/
theorem Rel.newF (r : Rel K ad W h H) {p : Addr} {o : HO} (hp : H p = none) : Rel K ad (W.frz p o) h (upd H p o) :=
  (r.junk (r.fresh hp).1 (r.fresh hp).2.1 (r.fresh hp).2.2).frz upd_same (r.fresh hp).1 (fun n u e _ => absurd (List.mem_of_getElem? e) (r.fresh hp).2.1) (r.fresh hp).2.2
/-- the world with one more cell -/
def Wd.cell (W : Wd) (p : Addr) : Wd := ⟨W.F, W.io ++ [p], W.pr⟩
theorem Wd.le_cell {W : Wd} {p : Addr} : W.le (W.cell p) := ⟨fun _ _ e => e, fun n a e => by
  have hn := (List.getElem?_eq_some_iff.mp e).1
  show (W.io ++ [p])[n]? = some a
  rw [List.getElem?_append_left hn]
  exact e, rfl⟩
theorem Wd.cell_at {W : Wd} {p : Addr} : (W.cell p).io[W.io.length]? = some p := by
  show (W.io ++ [p])[W.io.length]? = some p
  simp
/-- a new object, tracked by nobody, is a cell from now on -/
theorem Rel.toCell (r : Rel K ad W h H) {p : Addr} {o : LO} {u : HO} (hp : H p = some u) (h1 : W.F p = none) (h2 : p ∉ W.io) (h3 : ∀ q ∈ W.pr, q.1 ≠ p) (q : OR K ad (W.cell p) o u) : Rel K ad (W.cell p) (h ++ [o]) H := by
  have key : ∀ (n : Nat) (a : Addr) (v : LO), (W.io ++ [p])[n]? = some a → (h ++ [o])[n]? = some v → (W.io[n]? = some a ∧ h[n]? = some v) ∨ (a = p ∧ v = o) := fun n a v e1 e2 => by
    by_cases hn : n < W.io.length
    · rw [List.getElem?_append_left hn] at e1
      rw [List.getElem?_append_left (by rw [← r.len]; exact hn)] at e2
      exact .inl ⟨e1, e2⟩
    · rw [List.getElem?_append_right (by omega)] at e1
      rw [List.getElem?_append_right (by rw [← r.len]; omega), ← r.len] at e2
      cases hk : n - W.io.length with
      | zero =>
        rw [hk] at e1 e2
        simp at e1 e2
        exact .inr ⟨e1.symm, e2.symm⟩
      | succ k =>
        rw [hk] at e1
        simp at e1
  refine ⟨?_, ?_, r.fz, r.fi, fun n a v e1 e2 e3 => ?_, fun n a v e1 e2 => ?_, fun q hq => ⟨(r.pv q hq).1, (r.pv q hq).2.1, fun hm => ?_⟩⟩
  · show (W.io ++ [p]).length = (h ++ [o]).length
    rw [List.length_append, List.length_append, r.len]
    rfl
  · exact List.nodup_append.mpr ⟨r.nd, by simp, fun a ha b hb => by
      have : b = p := by simpa using hb
      subst this
      exact fun z => h2 (z ▸ ha)⟩
  · rcases key n a v e1 e2 with ⟨f1, f2⟩ | ⟨rfl, rfl⟩
    · exact r.dj n a v f1 f2 e3
    · exact h1
  · rcases key n a v e1 e2 with ⟨f1, f2⟩ | ⟨rfl, rfl⟩
    · obtain ⟨x, e3, q2⟩ := r.cl n a v f1 f2
      exact ⟨x, e3, q2.mono K ad Wd.le_cell⟩
    · exact ⟨u, hp, q⟩
  · rcases List.mem_append.mp hm with z | z
    · exact (r.pv _ hq).2.2 z
    · exact h3 _ hq (by simpa using z)
theorem io_inj (r : Rel K ad W h H) {n m : Nat} {a : Addr} (e1 : W.io[n]? = some a) (e2 : W.io[m]? = some a) : n = m := by
  have h1 := (List.getElem?_eq_some_iff.mp e1)
  have h2 := (List.getElem?_eq_some_iff.mp e2)
  obtain ⟨l1, q1⟩ := h1
  obtain ⟨l2, q2⟩ := h2
  exact (List.getElem_inj r.nd).mp (q1.trans q2.symm)
/-- a cell is written -/
theorem Rel.write (r : Rel K ad W h H) {n : Nat} {a : Addr} {o o' : LO} {u' : HO} (e1 : W.io[n]? = some a) (e2 : h[n]? = some o) (nd : o ≠ LO.dead) (q : OR K ad W o' u') : Rel K ad W (h.set n o') (upd H a u') := by
  have hF := r.dj n a o e1 e2 nd
  have hn := (List.getElem?_eq_some_iff.mp e2).1
  refine ⟨by rw [List.length_set]; exact r.len, r.nd, fun b u e => ?_, fun b C dx fs e => ?_, fun m b v f1 f2 f3 => ?_, fun m b v f1 f2 => ?_, fun p hp => ⟨(upd_ne fun z => (r.pv p hp).2.2 (by rw [z]; exact List.mem_of_getElem? e1)).trans (r.pv p hp).1, (r.pv p hp).2⟩⟩
  · have : b ≠ a := fun z => by rw [z, hF] at e; cases e
    unfold Rd
    rw [upd_ne this]
    exact r.fz b u e
  · have : b ≠ a := fun z => by rw [z, hF] at e; cases e
    rw [upd_ne this]
    exact r.fi b C dx fs e
  · by_cases hm : m = n
    · subst hm
      rw [e1] at f1
      cases f1
      exact hF
    · rw [List.getElem?_set_ne (Ne.symm hm)] at f2
      exact r.dj m b v f1 f2 f3
  · by_cases hm : m = n
    · subst hm
      rw [e1] at f1
      cases f1
      rw [List.getElem?_set_self hn] at f2
      cases f2
      exact ⟨u', upd_same, q⟩
    · rw [List.getElem?_set_ne (Ne.symm hm)] at f2
      have : b ≠ a := fun z => hm (io_inj r (z ▸ f1) e1)
      rw [upd_ne this]
      exact r.cl m b v f1 f2
/-- a cell is let go: nothing changes -/
theorem Rel.kill (r : Rel K ad W h H) (n : Nat) : Rel K ad W (h.set n .dead) H := by
  refine ⟨by rw [List.length_set]; exact r.len, r.nd, r.fz, r.fi, fun m b v f1 f2 f3 => ?_, fun m b v f1 f2 => ?_, r.pv⟩
  · by_cases hm : m = n
    · subst hm
      by_cases hn : m < h.length
      · rw [List.getElem?_set_self hn] at f2
        cases f2
        exact absurd rfl f3
      · rw [List.getElem?_eq_none (by rw [List.length_set]; omega)] at f2
        cases f2
    · rw [List.getElem?_set_ne (Ne.symm hm)] at f2
      exact r.dj m b v f1 f2 f3
  · by_cases hm : m = n
    · subst hm
      obtain ⟨u, e⟩ := r.ioH f1
      by_cases hn : m < h.length
      · rw [List.getElem?_set_self hn] at f2
        cases f2
        exact ⟨u, e, trivial⟩
      · rw [List.getElem?_eq_none (by rw [List.length_set]; omega)] at f2
        cases f2
    · rw [List.getElem?_set_ne (Ne.symm hm)] at f2
      exact r.cl m b v f1 f2
theorem FL.sq (r : Rel K ad W h H) {a : Addr} {xs : List V} (f : FL K W a xs) : SqL K H a xs := by
  rcases f with f | f
  · exact .inl (r.fz _ _ f)
  · exact .inr f
/-- a list: frozen, or in a cell -/
theorem lst_sq (r : Rel K ad W h H) {v : LV} {u : V} {xs : List LV} (q : VR K ad W v u) (e : lstOf h v = some xs) : ∃ a rs, u = .ref a ∧ SqL K H a rs ∧ VRs K ad W xs rs := by
  unfold lstOf view at e
  cases q with
  | lst f q2 =>
    cases e
    exact ⟨_, _, rfl, .inl (r.fz _ _ f), q2⟩
  | @ref n a hn =>
    dsimp only at e
    cases e2 : h[n]? with
    | none => rw [e2] at e; cases e
    | some o =>
      rw [e2] at e
      cases o with
      | lst ys =>
        cases e
        obtain ⟨u, e3, rs, e4, q2⟩ := r.cl n a _ hn e2
        subst e4
        exact ⟨a, rs, rfl, .of e3, q2⟩
      | _ => cases e
  | _ => cases e
theorem VRs.ints {W : Wd} : ∀ ns : List Int, VRs K ad W (ns.map LV.int) (ns.map V.int)
  | [] => .nil
  | n :: ns => .cons (.int n) (VRs.ints ns)
theorem seq_sq (r : Rel K ad W h H) {v : LV} {u : V} {xs : List LV} (q : VR K ad W v u) (e : seqOf h v = some xs) : ∃ a rs, u = .ref a ∧ (SqL K H a rs ∨ SqT K H a rs) ∧ VRs K ad W xs rs := by
  cases q with
  | tup f q2 =>
    cases e
    exact ⟨_, _, rfl, .inr (.inl (r.fz _ _ f)), q2⟩
  | non => cases e
  | bl => cases e
  | int => cases e
  | str => cases e
  | lst f q2 =>
    obtain ⟨a, rs, h1, h2, h3⟩ := lst_sq r (.lst f q2) (xs := xs) e
    exact ⟨a, rs, h1, .inl h2, h3⟩
  | scr ns f =>
    cases e
    exact ⟨_, _, rfl, .inl (f.sq r), VRs.ints ns⟩
  | obj f g q2 =>
    obtain ⟨a, rs, h1, h2, h3⟩ := lst_sq r (.obj f g q2) (xs := xs) e
    exact ⟨a, rs, h1, .inl h2, h3⟩
  | ref hn =>
    obtain ⟨a, rs, h1, h2, h3⟩ := lst_sq r (.ref hn) (xs := xs) e
    exact ⟨a, rs, h1, .inl h2, h3⟩
/-- a private object: nobody but its owner touches it -/
def Wd.priv (W : Wd) (p : Addr) (o : HO) : Wd := ⟨W.F, W.io, (p, o) :: W.pr⟩
/-- the world without what is private here -/
def Wd.pub (W : Wd) (l : List (Addr × HO)) : Wd := ⟨W.F, W.io, l⟩
theorem Rel.priv (r : Rel K ad W h H) {p : Addr} {o : HO} (hp : H p = some o) (h1 : W.F p = none) (h2 : p ∉ W.io) : Rel K ad (W.priv p o) h H :=
  ⟨r.len, r.nd, r.fz, r.fi, r.dj, fun n a u e1 e2 => by
    obtain ⟨v, e3, q⟩ := r.cl n a u e1 e2
    refine ⟨v, e3, ?_⟩
    cases u with
    | lst xs => obtain ⟨rs, e4, q⟩ := q; exact ⟨rs, e4, q.same (W := W) (W' := W.priv p o) K ad rfl rfl⟩
    | ins c fs => obtain ⟨dx, fr, e4, e5, q⟩ := q; exact ⟨dx, fr, e4, e5, q.same (W := W) (W' := W.priv p o) K ad rfl rfl⟩
    | dct _ => obtain ⟨qs, e4, q1, q2⟩ := q; exact ⟨qs, e4, q1.same (W := W) (W' := W.priv p o) K ad rfl rfl, q2.same (W := W) (W' := W.priv p o) K ad rfl rfl⟩
    | dead => trivial, fun q hq => by
    rcases List.mem_cons.mp hq with z | z
    · subst z
      exact ⟨hp, h1, h2⟩
    · exact r.pv q z⟩
theorem Rel.pubd (r : Rel K ad W h H) {l : List (Addr × HO)} (hl : ∀ p ∈ l, p ∈ W.pr) : Rel K ad (W.pub l) h H :=
  ⟨r.len, r.nd, r.fz, r.fi, r.dj, fun n a u e1 e2 => by
    obtain ⟨v, e3, q⟩ := r.cl n a u e1 e2
    refine ⟨v, e3, ?_⟩
    cases u with
    | lst xs => obtain ⟨rs, e4, q⟩ := q; exact ⟨rs, e4, q.same (W := W) (W' := W.pub l) K ad rfl rfl⟩
    | ins c fs => obtain ⟨dx, fr, e4, e5, q⟩ := q; exact ⟨dx, fr, e4, e5, q.same (W := W) (W' := W.pub l) K ad rfl rfl⟩
    | dct _ => obtain ⟨qs, e4, q1, q2⟩ := q; exact ⟨qs, e4, q1.same (W := W) (W' := W.pub l) K ad rfl rfl, q2.same (W := W) (W' := W.pub l) K ad rfl rfl⟩
    | dead => trivial, fun q hq => r.pv q (hl q hq)⟩
theorem line_eq : line = sizeLine := by rw [sizeLine_eq]; rfl
/-- a new list by value or in a cell -/
theorem mkL_ok {Wx : WX} {σ : St} {Q : VK} {mu : Bool} {xs : List LV} {rs : List V} (r : Rel K ad W h H) (q : VRs K ad W xs rs) (p : Post K ad (VR K ad) Wx W σ Q (mkL mu xs h)) :
    rs.length ≤ sizeLine ∧ ∀ p, H p = none → Q (.ref p) (upd H p (.lst rs)) := by
  unfold mkL at p
  by_cases hl : xs.length ≤ line
  · rw [if_pos hl] at p
    refine ⟨by rw [← q.length, ← line_eq]; exact hl, fun a ha => ?_⟩
    cases mu with
    | true =>
      have f := r.fresh ha
      refine p (W.cell a) (.ref a) _ Wd.le_cell ((r.junk f.1 f.2.1 f.2.2).toCell upd_same f.1 f.2.1 f.2.2 ⟨rs, rfl, q.mono K ad Wd.le_cell⟩) (.ref ?_)
      rw [← r.len]
      exact Wd.cell_at
    | false =>
      have f := r.fresh ha
      exact p (W.frz a (.lst rs)) (.ref a) _ (Wd.le_frz f.1) (r.newF ha) (.lst Wd.frz_at (q.mono K ad (Wd.le_frz f.1)))
  · rw [if_neg hl] at p
    exact p.elim
theorem mkT_ok {Wx : WX} {σ : St} {Q : VK} {xs : List LV} {rs : List V} (r : Rel K ad W h H) (q : VRs K ad W xs rs) (p : Post K ad (VR K ad) Wx W σ Q (mkT xs h)) :
    rs.length ≤ sizeLine ∧ ∀ p, H p = none → Q (.ref p) (upd H p (.tup rs)) := by
  unfold mkT at p
  by_cases hl : xs.length ≤ line
  · rw [if_pos hl] at p
    refine ⟨by rw [← q.length, ← line_eq]; exact hl, fun a ha => ?_⟩
    have f := r.fresh ha
    exact p (W.frz a (.tup rs)) (.ref a) _ (Wd.le_frz f.1) (r.newF ha) (.tup Wd.frz_at (q.mono K ad (Wd.le_frz f.1)))
  · rw [if_neg hl] at p
    exact p.elim
/-! ### dicts -/
theorem key_vr {x : LV} {y : V} (q : VR K ad W x y) (hk : keyB x = true) : ∃ k : Key, y = kV k := by
  cases q with
  | int i => exact ⟨.inl i, rfl⟩
  | str s g => exact ⟨.inr ⟨s.toArray⟩, rfl⟩
  | _ => cases hk
theorem key_iff {a b : LV} {k j : Key} (q1 : VR K ad W a (kV k)) (q2 : VR K ad W b (kV j)) : a = b ↔ k = j := by
  have one : ∀ {x : LV} {k : Key}, VR K ad W x (kV k) → (∃ i, x = .int i ∧ k = .inl i) ∨ ∃ s : List Nat, x = .str s ∧ k = .inr ⟨s.toArray⟩ := fun {x k} q => by
    cases k with
    | inl i =>
      have q' : VR K ad W x (.int i) := q
      cases q'
      exact .inl ⟨i, rfl, rfl⟩
    | inr s =>
      have q' : VR K ad W x (.str s) := q
      cases q' with
      | str t g => exact .inr ⟨t, rfl, rfl⟩
  rcases one q1 with ⟨i, rfl, rfl⟩ | ⟨s, rfl, rfl⟩ <;> rcases one q2 with ⟨j, rfl, rfl⟩ | ⟨t, rfl, rfl⟩
  · exact ⟨fun e => by cases e; rfl, fun e => by cases e; rfl⟩
  · exact ⟨fun e => (nomatch e), fun e => (nomatch e)⟩
  · exact ⟨fun e => (nomatch e), fun e => (nomatch e)⟩
  · refine ⟨fun e => by cases e; rfl, fun e => ?_⟩
    have e1 := Sum.inr.inj e
    have e2 : s.toArray = t.toArray := by injection e1
    have e3 : s = t := by
      have := congrArg Array.toList e2
      simpa using this
    rw [e3]
/-- keys and values of a dict, pair by pair -/
inductive DR (K : PySem.W.Frag) (ad : String → Addr) (W : Wd) : List (LV × LV) → List (Key × V) → Prop
  | nil : DR K ad W [] []
  | cons {a b : LV} {k : Key} {r : V} {kvs : List (LV × LV)} {qs : List (Key × V)} : VR K ad W a (kV k) → VR K ad W b r → DR K ad W kvs qs → DR K ad W ((a, b) :: kvs) ((k, r) :: qs)
theorem DR.of : ∀ {kvs : List (LV × LV)} {qs : List (Key × V)}, VRs K ad W (kvs.map (·.1)) (qs.map fun q => kV q.1) → VRs K ad W (kvs.map (·.2)) (qs.map (·.2)) → DR K ad W kvs qs
  | [], [], _, _ => .nil
  | [], _ :: _, h, _ => by cases h
  | _ :: _, [], h, _ => by cases h
  | (a, b) :: kvs, (k, r) :: qs, h1, h2 => by
    cases h1 with
    | cons x1 t1 =>
      cases h2 with
      | cons x2 t2 => exact .cons x1 x2 (DR.of t1 t2)
theorem DR.to {kvs : List (LV × LV)} {qs : List (Key × V)} (d : DR K ad W kvs qs) : VRs K ad W (kvs.map (·.1)) (qs.map fun q => kV q.1) ∧ VRs K ad W (kvs.map (·.2)) (qs.map (·.2)) := by
  induction d with
  | nil => exact ⟨.nil, .nil⟩
  | cons a b _ ih => exact ⟨.cons a ih.1, .cons b ih.2⟩
theorem DR.length {kvs : List (LV × LV)} {qs : List (Key × V)} (d : DR K ad W kvs qs) : kvs.length = qs.length := by
  induction d with
  | nil => rfl
  | cons _ _ _ ih => rw [List.length_cons, List.length_cons, ih]
theorem DR.look {a : LV} {k : Key} (q : VR K ad W a (kV k)) {kvs : List (LV × LV)} {qs : List (Key × V)} (d : DR K ad W kvs qs) : (lookD kvs a = none ∧ valV qs k = none) ∨ ∃ v r, lookD kvs a = some v ∧ valV qs k = some r ∧ VR K ad W v r := by
  induction d with
  | nil => exact .inl ⟨rfl, valV_nil⟩
  | @cons x b j r kvs qs h1 h2 _ ih =>
    unfold lookD
    by_cases e : x = a
    · have e2 : j = k := (key_iff h1 q).mp e
      rw [if_pos e]
      exact .inr ⟨b, r, rfl, valV_pos e2, h2⟩
    · have e2 : ¬ j = k := fun z => e ((key_iff h1 q).mpr z)
      rw [if_neg e]
      rcases ih with ⟨i1, i2⟩ | ⟨v, r', i1, i2, i3⟩
      · exact .inl ⟨i1, by rw [valV_neg e2]; exact i2⟩
      · exact .inr ⟨v, r', i1, by rw [valV_neg e2]; exact i2, i3⟩
theorem DR.any {a : LV} {k : Key} (q : VR K ad W a (kV k)) {kvs : List (LV × LV)} {qs : List (Key × V)} (d : DR K ad W kvs qs) : (kvs.any fun p => decide (p.1 = a)) = qs.any fun p => decide (p.1 = k) := by
  induction d with
  | nil => rfl
  | @cons x b j r kvs qs h1 h2 _ ih =>
    rw [List.any_cons, List.any_cons, ih]
    congr 1
    exact decide_eq_decide.mpr (key_iff h1 q)
theorem DR.app {kvs kvs2 : List (LV × LV)} {qs qs2 : List (Key × V)} (d : DR K ad W kvs qs) (d2 : DR K ad W kvs2 qs2) : DR K ad W (kvs ++ kvs2) (qs ++ qs2) := by
  induction d with
  | nil => exact d2
  | cons a b _ ih => exact .cons a b ih
theorem DR.put {a v : LV} {k : Key} {r : V} (q : VR K ad W a (kV k)) (qv : VR K ad W v r) {kvs : List (LV × LV)} {qs : List (Key × V)} (d : DR K ad W kvs qs) : DR K ad W (putD kvs a v) (putK qs k r) := by
  unfold putD putK
  rw [d.any q]
  by_cases c : (qs.any fun p => decide (p.1 = k)) = true
  · rw [if_pos c, if_pos c]
    clear c
    induction d with
    | nil => exact .nil
    | @cons x b j w kvs qs h1 h2 _ ih =>
      rw [List.map_cons, List.map_cons]
      by_cases e : x = a
      · have e2 : j = k := (key_iff h1 q).mp e
        dsimp only
        rw [if_pos e, if_pos e2]
        exact .cons h1 qv ih
      · have e2 : ¬ j = k := fun z => e ((key_iff h1 q).mpr z)
        dsimp only
        rw [if_neg e, if_neg e2]
        exact .cons h1 h2 ih
  · rw [if_neg c, if_neg c]
    exact d.app (.cons q qv .nil)
theorem dct_at (r : Rel K ad W h H) {v : LV} {u : V} {kvs : List (LV × LV)} (q : VR K ad W v u) (e : dctOf h v = some kvs) : ∃ n a qs, v = .ref n ∧ u = .ref a ∧ W.io[n]? = some a ∧ h[n]? = some (.dct kvs) ∧ H a = some (.dK qs) ∧ DR K ad W kvs qs := by
  cases q with
  | @ref n a hn =>
    unfold dctOf at e
    dsimp only at e
    split at e
    · rename_i kvs' e1
      cases e
      obtain ⟨w, e3, qs, e4, q1, q2⟩ := r.cl n a _ hn e1
      subst e4
      exact ⟨n, a, qs, rfl, rfl, hn, e1, e3, DR.of q1 q2⟩
    · cases e
  | _ => cases e
end
end Mn

set_option Elab.async false
set_option linter.all false
set_option maxRecDepth 100000
set_option maxHeartbeats 4000000
/-! Mini, part 4: the operations by values are those of the model. -/
namespace Mn
open PySem PySem.Spec PyProof.Rows L2

section
variable {K : PySem.W.Frag} {ad : String → Addr} {W : Wd} {h : Hh} {H : Hp}
/-! ### data -/
mutual
theorem dat_dp (r : Rel K ad W h H) : ∀ (k : Nat) (v d : LV) (u : V), dat k h v = some d → VR K ad W v u → Dp K H u (pd d) ∧ (pd d).canLay0 = true ∧ (pd d).depth ≤ k
  | 0, _, _, _, e, _ => by cases e
  | k + 1, .non, d, u, e, q => by
    cases e; cases q
    exact ⟨.non, rfl, Nat.zero_le _⟩
  | k + 1, .bl b, d, u, e, q => by
    cases e; cases q
    exact ⟨.bl b, rfl, Nat.zero_le _⟩
  | k + 1, .int i, d, u, e, q => by
    cases e; cases q
    exact ⟨.int i, rfl, Nat.zero_le _⟩
  | k + 1, .str s, d, u, e, q => by
    cases e
    cases q with
    | str _ g =>
      refine ⟨.str _, ?_, Nat.zero_le _⟩
      show (s.toArray.all fun c => decide (c < 0x110000)) = true
      simp only [Array.all_eq_true]
      intro i hi
      have := g (s.toArray[i]) (by simp)
      exact decide_eq_true this
  | k + 1, .tup xs, d, u, e, q => by
    have e' : (mapO (dat k h) xs).map LV.tup = some d := e
    cases e2 : mapO (dat k h) xs with
    | none => rw [e2] at e'; cases e'
    | some ys =>
      rw [e2] at e'
      cases e'
      cases q with
      | tup f q2 =>
        obtain ⟨h1, h2, h3⟩ := dats_dp r k xs ys _ e2 q2
        exact ⟨.tup (.inl (r.fz _ _ f)) h1, h2, Nat.succ_le_succ h3⟩
  | k + 1, .lst xs, d, u, e, q => by
    have e' : (mapO (dat k h) xs).map LV.lst = some d := e
    cases e2 : mapO (dat k h) xs with
    | none => rw [e2] at e'; cases e'
    | some ys =>
      rw [e2] at e'
      cases e'
      cases q with
      | lst f q2 =>
        obtain ⟨h1, h2, h3⟩ := dats_dp r k xs ys _ e2 q2
        exact ⟨.lst (.inl (r.fz _ _ f)) h1, h2, Nat.succ_le_succ h3⟩
  | k + 1, .obj _ _ _, d, u, e, q => by cases e
  | k + 1, .dct _ _, d, u, e, q => by cases e
  | k + 1, .scr _, d, u, e, q => by cases e
  | k + 1, .ref n, d, u, e, q => by
    cases q with
    | @ref _ a hn =>
      have e' : (match h[n]? with
        | some (.lst xs) => (mapO (dat k h) xs).map LV.lst
        | _ => none) = some d := e
      cases e3 : h[n]? with
      | none => rw [e3] at e'; cases e'
      | some o =>
        rw [e3] at e'
        cases o with
        | lst xs =>
          have e4 : (mapO (dat k h) xs).map LV.lst = some d := e'
          cases e2 : mapO (dat k h) xs with
          | none => rw [e2] at e4; cases e4
          | some ys =>
            rw [e2] at e4
            cases e4
            obtain ⟨u, e5, rs, e6, q2⟩ := r.cl n a _ hn e3
            subst e6
            obtain ⟨h1, h2, h3⟩ := dats_dp r k xs ys _ e2 q2
            exact ⟨.lst (.of e5) h1, h2, Nat.succ_le_succ h3⟩
        | _ => cases e'
theorem dats_dp (r : Rel K ad W h H) : ∀ (k : Nat) (vs ds : List LV) (us : List V), mapO (dat k h) vs = some ds → VRs K ad W vs us → DpAll K H us (pds ds) ∧ PyData.canLayAll0 (pds ds) = true ∧ PyData.depthAll (pds ds) ≤ k
  | k, [], ds, us, e, q => by
    cases q
    have e' : some ([] : List LV) = some ds := by
      exact e
    cases e'
    exact ⟨.nil, rfl, Nat.zero_le _⟩
  | k, v :: vs, ds, us, e, q => by
    cases q with
    | cons q1 q2 =>
      unfold mapO at e
      cases e1 : dat k h v with
      | none => rw [e1] at e; cases e
      | some y =>
        rw [e1] at e
        dsimp only at e
        cases e2 : mapO (dat k h) vs with
        | none => rw [e2] at e; cases e
        | some ys =>
          rw [e2] at e
          cases e
          obtain ⟨a1, a2, a3⟩ := dat_dp r k v y _ e1 q1
          obtain ⟨b1, b2, b3⟩ := dats_dp r k vs ys _ e2 q2
          exact ⟨.cons a1 b1, by show ((pd y).canLay0 && PyData.canLayAll0 (pds ys)) = true; rw [a2, b2]; rfl, Nat.max_le.mpr ⟨a3, b3⟩⟩
end
theorem dat_shaped (r : Rel K ad W h H) {v d : LV} {u : V} (e : dat DEEP h v = some d) (q : VR K ad W v u) : Dp K H u (pd d) ∧ SeqAt.shaped (pd d) = true := by
  obtain ⟨h1, h2, h3⟩ := dat_dp r DEEP v d u e q
  refine ⟨h1, ?_⟩
  unfold SeqAt.shaped
  rw [h2, Bool.true_and]
  exact decide_eq_true (Nat.le_trans h3 (by decide))
theorem dats_shaped (r : Rel K ad W h H) {vs ds : List LV} {us : List V} (e : mapO (dat DEEP h) vs = some ds) (q : VRs K ad W vs us) : DpAll K H us (pds ds) ∧ SeqAt.shaped (.list (pds ds)) = true ∧ SeqAt.shaped (.tuple (pds ds)) = true := by
  obtain ⟨h1, h2, h3⟩ := dats_dp r DEEP vs ds us e q
  refine ⟨h1, ?_, ?_⟩
  · unfold SeqAt.shaped
    show (PyData.canLayAll0 (pds ds) && decide (PyData.depthAll (pds ds) + 1 ≤ 64)) = true
    rw [h2, Bool.true_and]
    exact decide_eq_true (Nat.le_trans (Nat.succ_le_succ h3) (by decide))
  · unfold SeqAt.shaped
    show (PyData.canLayAll0 (pds ds) && decide (PyData.depthAll (pds ds) + 1 ≤ 64)) = true
    rw [h2, Bool.true_and]
    exact decide_eq_true (Nat.le_trans (Nat.succ_le_succ h3) (by decide))
end

section
variable {X : Cx} {K : PySem.W.Frag} {W : Wd} {h : Hh} {H : Hp} (ad : String → Addr)
/-- a two-place operation of the interpreter on values, its answer by R -/
def r2M (K : PySem.W.Frag) {α : Type} (R : Wd → α → V → Prop) (f : LV → LV → M α) : R2 := fun x y H Q => ∃ (W : Wd) (h : Hh) (a b : LV) (Wx : WX) (σ : St), Rel K ad W h H ∧ VR K ad W a x ∧ VR K ad W b y ∧ Post K ad R Wx W σ Q (f a b h)
def opk : BOp → Operator
  | .add => .Add | .sub => .Sub | .mul => .Mult | .fdiv => .FloorDiv | .mod => .Mod | .pow => .Pow
theorem small_ok {i : Int} (h : smallI i = true) : i.natAbs < 2 ^ 200 := by
  unfold smallI BIG at h
  simp only [Bool.and_eq_true, decide_eq_true_eq] at h
  have : (2 : Nat) ^ 200 = 1606938044258990275541962092341162602522202993782792835301376 := by decide
  rw [this]
  omega
theorem str_cat (s t : List Nat) : ((⟨s.toArray⟩ : Str) ++ (⟨t.toArray⟩ : Str)) = (⟨(s ++ t).toArray⟩ : Str) := by
  show (⟨s.toArray ++ t.toArray⟩ : Str) = _
  simp
theorem str_len (s : List Nat) : (⟨s.toArray⟩ : Str).length = s.length := by
  show s.toArray.size = s.length
  simp
/-- a list that may be joined: the object's own form -/
theorem lst_rd {ad : String → Addr} (r : Rel K ad W h H) {v : LV} {u : V} {xs : List LV} (q : VR K ad W v u) (e : lstOf h v = some xs) : ∃ a rs, u = .ref a ∧ Rd H a (.lst rs) ∧ VRs K ad W xs rs := by
  unfold lstOf view at e
  cases q with
  | lst f q2 =>
    cases e
    exact ⟨_, _, rfl, r.fz _ _ f, q2⟩
  | @ref n a hn =>
    dsimp only at e
    cases e2 : h[n]? with
    | none => rw [e2] at e; cases e
    | some o =>
      rw [e2] at e
      cases o with
      | lst ys =>
        cases e
        obtain ⟨u, e3, rs, e4, q2⟩ := r.cl n a _ hn e2
        subst e4
        exact ⟨a, rs, rfl, .inl e3, q2⟩
      | _ => cases e
  | _ => cases e
theorem op_catR : OpR X (binaryOp .Add) (fun x y H Q => ∃ l b xs zs, x = .ref l ∧ y = .ref b ∧ Rd H l (.lst xs) ∧ Rd H b (.lst zs) ∧ xs.length + zs.length ≤ sizeLine ∧ ∀ p, H p = none → Q (.ref p) (upd H p (.lst (xs ++ zs)))) := by
  intro pins s σ H x y v u Q I rx ry h
  obtain ⟨l, b, xs, zs, rfl, rfl, hH, hB, hz, q⟩ := h
  cases rx
  cases ry
  obtain ⟨z, its, n, r, e⟩ := hH.ok I.hok
  obtain ⟨z2, its2, n2, r2, e2⟩ := hB.ok I.hok
  have hl := r.length
  have hl2 := r2.length
  refine PySem.P.add_list e e2 ?_ (by rw [List.size_toArray, List.size_toArray]; omega)
  have ea : its.toArray ++ its2.toArray = (its ++ its2).toArray := by simp
  rw [ea]
  refine ⟨.ref s.heap.objs.size, _, I.laid (t' := s.toks) (o := .lst (xs ++ zs)) (fun b ob q => Heap.get?_push_of_some _ q) (Nat.le_refl _) ?_, rfl, q _ (I.hok.fresh (Nat.le_refl _))⟩
  exact ⟨by rw [List.length_append]; omega, _, 0, r.append r2, Heap.get?_push_size _ rfl⟩
theorem op_bin (op : BOp) : OpR X (binaryOp (opk op)) (r2M ad X.K (VR X.K ad) (binV op)) := by
  intro pins s σ H x y v u Q I rx ry ⟨W, h, a, b, Wx, σ', rl, qa, qb, p⟩
  cases op with
  | add =>
    have lists : (match lstOf h a, lstOf h b with
        | some xs, some ys => if xs.length + ys.length ≤ line then Res.ok (.lst (xs ++ ys)) h else .bad
        | _, _ => .bad) = binV .add a b h → wpAny (model X.prog X.w) X.A (binaryOp .Add v u) (EP X pins σ Q) X.xe s := fun e => by
      rw [← e] at p
      cases e1 : lstOf h a with
      | none => rw [e1] at p; exact p.elim
      | some xs =>
        cases e2 : lstOf h b with
        | none => rw [e1, e2] at p; exact p.elim
        | some ys =>
          rw [e1, e2] at p
          dsimp only at p
          by_cases hl : xs.length + ys.length ≤ line
          · rw [if_pos hl] at p
            obtain ⟨pa, ra, rfl, sa, va⟩ := lst_rd (ad := ad) rl qa e1
            obtain ⟨pb, rb, rfl, sb, vb⟩ := lst_rd (ad := ad) rl qb e2
            refine op_catR pins s σ H _ _ v u Q I rx ry ⟨pa, pb, ra, rb, rfl, rfl, sa, sb, ?_, fun q hq => ?_⟩
            · rw [← va.length, ← vb.length, ← line_eq]
              exact hl
            · have f := rl.fresh hq
              exact p (W.frz q (.lst (ra ++ rb))) (.ref q) _ (Wd.le_frz f.1) (rl.newF hq) (.lst Wd.frz_at ((va.append vb).mono X.K ad (Wd.le_frz f.1)))
          · rw [if_neg hl] at p
            exact p.elim
    cases qa with
    | int i =>
      cases qb with
      | int j => exact op_add pins s σ H _ _ v u Q I rx ry ⟨i, j, rfl, rfl, p.ok rl (.int _)⟩
      | _ => exact lists rfl
    | str i gi =>
      cases qb with
      | str j gj =>
        have p' : Post X.K ad (VR X.K ad) Wx W σ' Q (if i.length + j.length ≤ line then .ok (.str (i ++ j)) h else .bad) := p
        by_cases hl : i.length + j.length ≤ line
        · rw [if_pos hl] at p'
          refine op_add_str pins s σ H _ _ v u Q I rx ry ⟨_, _, rfl, rfl, ?_, ?_⟩
          · rw [str_len, str_len, ← line_eq]
            exact hl
          · rw [str_cat]
            exact p'.ok rl (.str _ fun c hc => (List.mem_append.mp hc).elim (gi c) (gj c))
        · rw [if_neg hl] at p'
          exact p'.elim
      | _ => exact lists rfl
    | @tup a1 xs ra f1 q1 =>
      cases qb with
      | @tup b1 ys rb f2 q2 =>
        have p' : Post X.K ad (VR X.K ad) Wx W σ' Q (if xs.length + ys.length ≤ line then .ok (.tup (xs ++ ys)) h else .bad) := p
        by_cases hl : xs.length + ys.length ≤ line
        · rw [if_pos hl] at p'
          refine op_catA pins s σ H _ _ v u Q I rx ry ⟨a1, b1, ra, rb, rfl, rfl, .inl (rl.fz _ _ f1), .inl (rl.fz _ _ f2), ?_, fun e => ?_, fun _ e => ?_, fun _ _ q hq => ?_⟩
          · rw [← q1.length, ← q2.length, ← line_eq]
            exact hl
          · have : xs = [] := List.eq_nil_of_length_eq_zero (by rw [q1.length, e]; rfl)
            subst this
            exact p'.ok rl (.tup f2 q2)
          · have : ys = [] := List.eq_nil_of_length_eq_zero (by rw [q2.length, e]; rfl)
            subst this
            rw [List.append_nil] at p'
            exact p'.ok rl (.tup f1 q1)
          · have f := rl.fresh hq
            exact p' (W.frz q (.tup (ra ++ rb))) (.ref q) _ (Wd.le_frz f.1) (rl.newF hq) (.tup Wd.frz_at ((q1.append q2).mono X.K ad (Wd.le_frz f.1)))
        · rw [if_neg hl] at p'
          exact p'.elim
      | _ => exact lists rfl
    | _ => exact lists rfl
  | sub =>
    cases qa with
    | int i =>
      cases qb with
      | int j => exact op_sub pins s σ H _ _ v u Q I rx ry ⟨i, j, rfl, rfl, p.ok rl (.int _)⟩
      | _ => exact p.elim
    | _ => exact p.elim
  | mul =>
    cases qa with
    | int i =>
      cases qb with
      | int j =>
        have p' : Post X.K ad (VR X.K ad) Wx W σ' Q (if smallI i = true ∧ smallI j = true then .ok (.int (i * j)) h else .bad) := p
        by_cases hl : smallI i = true ∧ smallI j = true
        · rw [if_pos hl] at p'
          exact op_mulW pins s σ H _ _ v u Q I rx ry ⟨i, j, rfl, rfl, wide_mul (small_ok hl.1) (small_ok hl.2) (by decide) (by decide) (by decide), p'.ok rl (.int _)⟩
        · rw [if_neg hl] at p'
          exact p'.elim
      | _ => exact p.elim
    | @ref n pa hn =>
      cases qb with
      | int j =>
        have p' : Post X.K ad (VR X.K ad) Wx W σ' Q (match h[n]? with
          | some (.lst xs) => if 0 ≤ j ∧ j ≤ line ∧ xs.length * j.toNat ≤ line then .ok (.lst (List.replicate j.toNat xs).flatten) h else .bad
          | _ => .bad) := p
        cases e1 : h[n]? with
        | none => rw [e1] at p'; exact p'.elim
        | some ob =>
          rw [e1] at p'
          cases ob with
          | lst xs =>
            dsimp only at p'
            by_cases hl : 0 ≤ j ∧ j ≤ line ∧ xs.length * j.toNat ≤ line
            · rw [if_pos hl] at p'
              obtain ⟨w, e3, rs, e4, va⟩ := rl.cl n pa _ hn e1
              subst e4
              have hj : j ≤ 16777216 := hl.2.1
              refine op_rep pins s σ H _ _ v u Q I rx ry ⟨pa, j, rs, rfl, rfl, e3, by have := hl.1; omega, by omega, by rw [← va.length, ← line_eq]; exact hl.2.2, fun q hq => ?_⟩
              have f := rl.fresh hq
              exact p' (W.frz q (.lst (List.replicate j.toNat rs).flatten)) (.ref q) _ (Wd.le_frz f.1) (rl.newF hq) (.lst Wd.frz_at ((va.rep j.toNat).mono X.K ad (Wd.le_frz f.1)))
            · rw [if_neg hl] at p'
              exact p'.elim
          | _ => exact p'.elim
      | _ => exact p.elim
    | _ => exact p.elim
  | fdiv =>
    cases qa with
    | int i =>
      cases qb with
      | int j =>
        have p' : Post X.K ad (VR X.K ad) Wx W σ' Q (if 0 < j ∧ j < BIG then .ok (.int (i / j)) h else .bad) := p
        by_cases hl : 0 < j ∧ j < BIG
        · rw [if_pos hl] at p'
          have hs : smallI j = true := by
            unfold smallI
            simp only [Bool.and_eq_true, decide_eq_true_eq]
            have := hl.1
            have h2 := hl.2
            unfold BIG at *
            omega
          exact op_fdivW pins s σ H _ _ v u Q I rx ry ⟨i, j, rfl, rfl, wide_div hl.1 (small_ok hs) (by decide) (by decide), p'.ok rl (.int _)⟩
        · rw [if_neg hl] at p'
          exact p'.elim
      | _ => exact p.elim
    | _ => exact p.elim
  | mod =>
    cases qa with
    | int i =>
      cases qb with
      | int j =>
        have p' : Post X.K ad (VR X.K ad) Wx W σ' Q (if 0 < j then .ok (.int (i % j)) h else .bad) := p
        by_cases hl : 0 < j
        · rw [if_pos hl] at p'
          exact op_mod pins s σ H _ _ v u Q I rx ry ⟨i, j, rfl, rfl, hl, p'.ok rl (.int _)⟩
        · rw [if_neg hl] at p'
          exact p'.elim
      | _ => exact p.elim
    | _ => exact p.elim
  | pow =>
    cases qa with
    | int i =>
      cases qb with
      | int j =>
        have p' : Post X.K ad (VR X.K ad) Wx W σ' Q (if 0 ≤ j ∧ j ≤ 1000 ∧ i.natAbs ≤ 1000 then .ok (.int (i ^ j.toNat)) h else .bad) := p
        by_cases hl : 0 ≤ j ∧ j ≤ 1000 ∧ i.natAbs ≤ 1000
        · rw [if_pos hl] at p'
          refine op_pow pins s σ H _ _ v u Q I rx ry ⟨i, j, rfl, rfl, ⟨hl.1, ?_, ?_⟩, p'.ok rl (.int _)⟩
          · have := hl.2.1
            omega
          · have := hl.2.2
            have : (1000 : Nat) < 2 ^ 64 := by decide
            omega
        · rw [if_neg hl] at p'
          exact p'.elim
      | _ => exact p.elim
    | _ => exact p.elim
end
end Mn
namespace Mn
open PySem PySem.Spec PyProof.Rows L2
section
variable {X : Cx} {K : PySem.W.Frag} {W : Wd} {h : Hh} {H : Hp} (ad : String → Addr)
def copk : COp → CmpOp
  | .eq => .Eq | .ne => .NotEq | .lt => .Lt | .le => .LtE | .gt => .Gt | .ge => .GtE | .inn => .In | .nin => .NotIn | .is => .Is | .isn => .IsNot
def RB : Wd → Bool → V → Prop := fun _ b v => v = .bl b
theorem isN_dec {a : LV} {x : V} (q : VR K ad W a x) : isN a = decide (x = .non) := by cases q <;> simp [isN]
theorem eqM_cases (a b : LV) (h : Hh) : eqM a b h = .bad ∨ ∃ x y, dat DEEP h a = some x ∧ dat DEEP h b = some y ∧ eqM a b h = .ok (eqv x y) h := by
  unfold eqM
  cases e1 : dat DEEP h a with
  | none => exact .inl rfl
  | some d =>
    cases e2 : dat DEEP h b with
    | none => exact .inl rfl
    | some e => exact .inr ⟨d, e, rfl, rfl, rfl⟩
theorem eqM_ok {Wx : WX} {σ : St} {Q : VK} {a b : LV} {x y : V} (rl : Rel K ad W h H) (qa : VR K ad W a x) (qb : VR K ad W b y) (f : Bool → Bool) (p : Post K ad RB Wx W σ Q ((do let r ← eqM a b; pure (f r) : M Bool) h)) :
    ∃ d e, Dp K H x d ∧ Dp K H y e ∧ SeqAt.shaped d = true ∧ SeqAt.shaped e = true ∧ Q (.bl (f (PyData.eqv d e))) H := by
  rcases eqM_cases a b h with e | ⟨d, e, e1, e2, e3⟩
  · rw [bind_bad e] at p
    exact p.elim
  · rw [bind_ok e3] at p
    obtain ⟨h1, h2⟩ := dat_shaped rl e1 qa
    obtain ⟨h3, h4⟩ := dat_shaped rl e2 qb
    exact ⟨pd d, pd e, h1, h3, h2, h4, Post.ok (a := f (eqv d e)) p rl rfl⟩
theorem anyE (d : LV) (ys : List LV) : (ys.any fun y => eqv y d) = (pds ys).any fun z => PyData.eqv z (pd d) := by
  induction ys with
  | nil => rfl
  | cons y ys ih =>
    rw [List.any_cons, ih]
    rfl
theorem inM0_cases (a b : LV) (h : Hh) : inM0 a b h = .bad ∨ (∃ c t, a = .str [c] ∧ b = .str t ∧ inM0 a b h = .ok (decide (c ∈ t)) h) ∨
    ∃ xs x ys, seqOf h b = some xs ∧ dat DEEP h a = some x ∧ mapO (dat DEEP h) xs = some ys ∧ inM0 a b h = .ok (ys.any fun y => eqv y x) h := by
  have seqs : ∀ b : LV, (∀ t, b ≠ .str t) → inM0 a b h = .bad ∨ ∃ xs x ys, seqOf h b = some xs ∧ dat DEEP h a = some x ∧ mapO (dat DEEP h) xs = some ys ∧ inM0 a b h = .ok (ys.any fun y => eqv y x) h := fun b hb => by
    unfold inM0
    cases b with
    | str t => exact absurd rfl (hb t)
    | _ =>
      dsimp only
      split
      · split
        · exact .inr ⟨_, _, _, by assumption, by assumption, by assumption, rfl⟩
        · exact .inl rfl
      · exact .inl rfl
  by_cases hb : ∃ t, b = .str t
  · obtain ⟨t, rfl⟩ := hb
    unfold inM0
    dsimp only
    split
    · exact .inr (.inl ⟨_, _, rfl, rfl, rfl⟩)
    · exact .inl rfl
  · rcases seqs b fun t z => hb ⟨t, z⟩ with e | e
    · exact .inl e
    · exact .inr (.inr e)
theorem inM_cases (a b : LV) (h : Hh) : inM a b h = .bad ∨ (∃ c t, a = .str [c] ∧ b = .str t ∧ inM a b h = .ok (decide (c ∈ t)) h) ∨
    (∃ xs x ys, seqOf h b = some xs ∧ dat DEEP h a = some x ∧ mapO (dat DEEP h) xs = some ys ∧ inM a b h = .ok (ys.any fun y => eqv y x) h) ∨
    ∃ kvs, dctOf h b = some kvs ∧ keyB a = true ∧ inM a b h = .ok (lookD kvs a).isSome h := by
  unfold inM
  cases e : dctOf h b with
  | none =>
    rcases inM0_cases a b h with e1 | ⟨c, t, e1, e2, e3⟩ | ⟨xs, x, ys, e1, e2, e3, e4⟩
    · exact .inl e1
    · exact .inr (.inl ⟨c, t, e1, e2, e3⟩)
    · exact .inr (.inr (.inl ⟨xs, x, ys, e1, e2, e3, e4⟩))
  | some kvs =>
    by_cases hk : keyB a = true
    · exact .inr (.inr (.inr ⟨kvs, rfl, hk, by dsimp only; rw [if_pos hk]⟩))
    · exact .inl (by dsimp only; rw [if_neg hk])
theorem inM_ok {Wx : WX} {σ : St} {Q : VK} {a b : LV} {x y : V} (rl : Rel K ad W h H) (qa : VR K ad W a x) (qb : VR K ad W b y) (f : Bool → Bool) (p : Post K ad RB Wx W σ Q ((do let r ← inM a b; pure (f r) : M Bool) h)) :
    (∃ (c : Nat) (t : List Nat), x = .str ⟨#[c]⟩ ∧ y = .str ⟨t.toArray⟩ ∧ Q (.bl (f (decide (c ∈ t)))) H) ∨
    (∃ d ds, Dp K H x d ∧ (Dp K H y (.list ds) ∨ Dp K H y (.tuple ds)) ∧ SeqAt.shaped d = true ∧ SeqAt.shaped (.list ds) = true ∧ Q (.bl (f (ds.any fun z => PyData.eqv z d))) H) ∨
    (∃ ad' o, y = .ref ad' ∧ DGet H ad' x o ∧ Q (.bl (f o.isSome)) H) := by
  rcases inM_cases a b h with e | ⟨c, t, rfl, rfl, e⟩ | ⟨xs, d, ys, e0, e1, e2, e3⟩ | ⟨kvs, e0, hk, e3⟩
  · rw [bind_bad e] at p
    exact p.elim
  · rw [bind_ok e] at p
    cases qa
    cases qb
    exact .inl ⟨c, t, rfl, rfl, Post.ok (a := f (decide (c ∈ t))) p rl rfl⟩
  · rw [bind_ok e3] at p
    obtain ⟨h1, h2⟩ := dat_shaped rl e1 qa
    obtain ⟨pa, ra, e5, sa, va⟩ := seq_sq rl qb e0
    obtain ⟨h3, h4, h5⟩ := dats_shaped rl e2 va
    have p2 := Post.ok (a := f (ys.any fun y => eqv y d)) (r := V.bl (f (ys.any fun y => eqv y d))) p rl rfl
    rw [anyE] at p2
    refine .inr (.inl ⟨pd d, pds ys, h1, ?_, h2, h4, p2⟩)
    subst e5
    rcases sa with sa | sa
    · exact .inl (.lst sa h3)
    · exact .inr (.tup sa h3)
  · rw [bind_ok e3] at p
    obtain ⟨k, ek⟩ := key_vr qa hk
    subst ek
    obtain ⟨n, a', qs, _, eu, _, _, eH, d⟩ := dct_at rl qb e0
    refine .inr (.inr ⟨a', valV qs k, eu, .k eH, ?_⟩)
    have p2 := Post.ok (a := f (lookD kvs a).isSome) (r := V.bl (f (lookD kvs a).isSome)) p rl rfl
    rcases d.look qa with ⟨l1, l2⟩ | ⟨v, r, l1, l2, _⟩
    · rw [l1] at p2
      rw [l2]
      exact p2
    · rw [l1] at p2
      rw [l2]
      exact p2
theorem pure_id {m : M Bool} : (do let r ← m; pure (id r) : M Bool) = m := by
  funext h
  cases e : m h with
  | ok a h' => exact bind_ok e
  | exc x h' => exact bind_exc e
  | bad => exact bind_bad e
theorem op_cmp (op : COp) (hu : X.A.units + 66 < cLine) : OpR X (compareOp (copk op)) (r2M ad X.K RB (cmpV op)) := by
  intro pins s σ H x y v u Q I rx ry ⟨W, h, a, b, Wx, σ', rl, qa, qb, p⟩
  cases op with
  | eq =>
    obtain ⟨d, e, h1, h2, h3, h4, q⟩ := eqM_ok ad rl qa qb id (by rw [pure_id]; exact p)
    exact op_eqD (by omega) pins s σ H _ _ v u Q I rx ry ⟨d, e, h1, h2, h3, h4, q⟩
  | ne =>
    obtain ⟨d, e, h1, h2, h3, h4, q⟩ := eqM_ok ad rl qa qb (fun r => !r) p
    exact op_neD (by omega) pins s σ H _ _ v u Q I rx ry ⟨d, e, h1, h2, h3, h4, q⟩
  | lt =>
    cases qa with
    | int i =>
      cases qb with
      | int j => exact op_lt pins s σ H _ _ v u Q I rx ry ⟨i, j, rfl, rfl, Post.ok p rl rfl⟩
      | _ => exact p.elim
    | str i gi =>
      cases qb with
      | str j gj => exact op_lt_str pins s σ H _ _ v u Q I rx ry ⟨_, _, rfl, rfl, Post.ok p rl rfl⟩
      | _ => exact p.elim
    | _ => exact p.elim
  | le =>
    cases qa with
    | int i =>
      cases qb with
      | int j => exact op_le pins s σ H _ _ v u Q I rx ry ⟨i, j, rfl, rfl, Post.ok p rl rfl⟩
      | _ => exact p.elim
    | _ => exact p.elim
  | gt =>
    cases qa with
    | int i =>
      cases qb with
      | int j => exact op_gt pins s σ H _ _ v u Q I rx ry ⟨i, j, rfl, rfl, Post.ok p rl rfl⟩
      | _ => exact p.elim
    | _ => exact p.elim
  | ge =>
    cases qa with
    | int i =>
      cases qb with
      | int j => exact op_ge pins s σ H _ _ v u Q I rx ry ⟨i, j, rfl, rfl, Post.ok p rl rfl⟩
      | _ => exact p.elim
    | _ => exact p.elim
  | inn =>
    rcases inM_ok ad rl qa qb id (by rw [pure_id]; exact p) with ⟨c, t, rfl, rfl, q⟩ | ⟨d, ds, h1, h2, h3, h4, q⟩ | ⟨a', o, rfl, g, q⟩
    rotate_left 2
    · obtain rfl : u = Value.ref a' := ry
      exact d_in (by omega) I g rx fun s3 I3 => ⟨.bl o.isSome, H, I3, rfl, q⟩
    · exact op_in_sign pins s σ H _ _ v u Q I rx ry ⟨c, _, rfl, rfl, q⟩
    · rcases h2 with h2 | h2
      · exact op_inD (by omega) pins s σ H _ _ v u Q I rx ry ⟨d, ds, h1, h2, h3, h4, q⟩
      · obtain ⟨as, r1⟩ := Dp.reads I d x v h1 rx
        obtain ⟨bs, r2⟩ := Dp.reads I (.tuple ds) y u h2 ry
        exact SeqAt.in_tuple_reads r2 r1 (SeqAt.canLay_of_shaped (d := .list ds) h4) (SeqAt.canLay_of_shaped h3) (room_in_shaped h3 (by omega)) ⟨.bl _, H, I, rfl, q⟩
  | nin =>
    rcases inM_ok ad rl qa qb (fun r => !r) p with ⟨c, t, rfl, rfl, q⟩ | ⟨d, ds, h1, h2, h3, h4, q⟩ | ⟨a', o, rfl, g, q⟩
    rotate_left 2
    · obtain rfl : u = Value.ref a' := ry
      exact d_notIn (by omega) I g rx fun s3 I3 => ⟨.bl (!o.isSome), H, I3, rfl, q⟩
    · exact op_notIn_sign pins s σ H _ _ v u Q I rx ry ⟨c, _, rfl, rfl, q⟩
    · rcases h2 with h2 | h2
      · exact op_notInD (by omega) pins s σ H _ _ v u Q I rx ry ⟨d, ds, h1, h2, h3, h4, q⟩
      · obtain ⟨as, r1⟩ := Dp.reads I d x v h1 rx
        obtain ⟨bs, r2⟩ := Dp.reads I (.tuple ds) y u h2 ry
        exact SeqAt.notIn_tuple_reads r2 r1 (SeqAt.canLay_of_shaped (d := .list ds) h4) (SeqAt.canLay_of_shaped h3) (room_in_shaped h3 (by omega)) ⟨.bl _, H, I, rfl, q⟩
  | is =>
    cases qb with
    | non =>
      refine op_isN pins s σ H _ _ v u Q I rx ry ⟨rfl, ?_⟩
      have := Post.ok (r := V.bl (isN a)) p rl rfl
      rw [isN_dec ad qa] at this
      exact this
    | bl t =>
      cases qa with
      | bl c => exact op_isBl pins s σ H _ _ v u Q I rx ry ⟨c, t, rfl, rfl, Post.ok (a := decide (c = t)) p rl rfl⟩
      | _ => exact p.elim
    | _ => exact p.elim
  | isn =>
    cases qb with
    | non =>
      refine op_notN pins s σ H _ _ v u Q I rx ry ⟨rfl, ?_⟩
      have := Post.ok (r := V.bl (!isN a)) p rl rfl
      rw [isN_dec ad qa] at this
      exact this
    | bl t =>
      cases qa with
      | bl c => exact op_notBl pins s σ H _ _ v u Q I rx ry ⟨c, t, rfl, rfl, Post.ok (a := !decide (c = t)) p rl rfl⟩
      | _ => exact p.elim
    | _ => exact p.elim
end
end Mn

set_option Elab.async false
set_option linter.all false
set_option maxRecDepth 100000
set_option maxHeartbeats 4000000
/-! Mini, part 5: subscripts, slices, stores, built-ins, by values. -/
namespace Mn
open PySem PySem.Spec PyProof.Rows L2
section
variable {X : Cx} {K : PySem.W.Frag} {W : Wd} {h : Hh} {H : Hp} (ad : String → Addr)
theorem atI_rel {xs : List LV} {rs : List V} {i : Int} {v : LV} (q : VRs K ad W xs rs) (e : atI xs i = some v) : ∃ r, atI rs i = some r ∧ VR K ad W v r := by
  unfold atI at e ⊢
  rw [← q.length]
  cases e1 : ixN xs.length i with
  | none => rw [e1] at e; cases e
  | some j =>
    rw [e1] at e
    exact q.get (i := j) e
theorem subV0_cases (o i : LV) (h : Hh) : subV0 o i h = .bad ∨ (∃ s k c, o = .str s ∧ i = .int k ∧ s.length ≤ line ∧ atI s k = some c ∧ subV0 o i h = .ok (.str [c]) h) ∨
    ∃ k xs v, i = .int k ∧ seqOf h o = some xs ∧ atI xs k = some v ∧ subV0 o i h = .ok v h := by
  cases i with
  | int k =>
    by_cases ho : ∃ s, o = .str s
    · obtain ⟨s, rfl⟩ := ho
      unfold subV0
      dsimp only
      by_cases hl : s.length ≤ line
      · rw [if_pos hl]
        cases e : atI s k with
        | none => exact .inl rfl
        | some c => exact .inr (.inl ⟨s, k, c, rfl, rfl, hl, e, rfl⟩)
      · rw [if_neg hl]
        exact .inl rfl
    · have e0 : subV0 o (.int k) h = (match seqOf h o with
        | some xs => match atI xs k with
          | some v => .ok v h
          | none => .bad
        | none => .bad) := by
        unfold subV0
        cases o with
        | str s => exact absurd ⟨s, rfl⟩ ho
        | _ => rfl
      cases e1 : seqOf h o with
      | none => rw [e1] at e0; exact .inl e0
      | some xs =>
        rw [e1] at e0
        dsimp only at e0
        cases e2 : atI xs k with
        | none => rw [e2] at e0; exact .inl e0
        | some v => rw [e2] at e0; exact .inr (.inr ⟨k, xs, v, rfl, rfl, e2, e0⟩)
  | _ => exact .inl rfl
theorem ix_dict (hu : X.A.units + 1 < cLine) : IxR X (fun x y H Q => ∃ a v, x = .ref a ∧ DGet H a y (some v) ∧ Q v H) := by
  intro value slice pins s σ H x y v u Q I rx ry h hs
  obtain ⟨a, w, rfl, g, q⟩ := h
  obtain rfl : v = Value.ref a := rx
  exact tail_any (dict_typeIs I g) PySem.F.slot_dict_getitem.lookup (d_getItem hu I g ry fun w' s3 I3 rw' => ⟨w, H, I3, rw', q⟩) hs
theorem ix_sub0 : IxR X (r2M ad X.K (VR X.K ad) subV0) := by
  intro value slice pins s σ H x y v u Q I rx ry ⟨W, h, a, b, Wx, σ', rl, qa, qb, p⟩ hs
  rcases subV0_cases a b h with e | ⟨t, k, c, rfl, rfl, hl, ec, e⟩ | ⟨k, xs, w, rfl, e1, e2, e⟩
  · rw [e] at p
    exact p.elim
  · rw [e] at p
    cases qa with
    | str _ g =>
      cases qb
      refine ix_str value slice pins s σ H _ _ v u Q I rx ry ⟨_, k, c, rfl, rfl, ?_, ec, ?_⟩ hs
      · rw [str_len, ← line_eq]
        exact hl
      · refine p.ok rl (r := V.str ⟨#[c]⟩) (.str [c] fun z hz => ?_)
        have : z = c := by simpa using hz
        subst this
        unfold atI at ec
        cases e3 : ixN t.length k with
        | none => rw [e3] at ec; cases ec
        | some j =>
          rw [e3] at ec
          exact g z (List.mem_of_getElem? ec)
  · rw [e] at p
    cases qb
    obtain ⟨pa, ra, rfl, sa, va⟩ := seq_sq rl qa e1
    obtain ⟨r, e3, q⟩ := atI_rel ad va e2
    rcases sa with sa | sa
    · exact ix_list value slice pins s σ H _ _ v u Q I rx ry ⟨pa, ra, k, r, rfl, rfl, sa, e3, p.ok rl q⟩ hs
    · exact ix_tup value slice pins s σ H _ _ v u Q I rx ry ⟨pa, ra, k, r, rfl, rfl, sa, e3, p.ok rl q⟩ hs
theorem ix_sub (hu : X.A.units + 1 < cLine) : IxR X (r2M ad X.K (VR X.K ad) subV) := by
  intro value slice pins s σ H x y v u Q I rx ry ⟨W, h, a, b, Wx, σ', rl, qa, qb, p⟩ hs
  unfold subV at p
  cases e : dctOf h a with
  | none =>
    rw [e] at p
    exact ix_sub0 ad value slice pins s σ H x y v u Q I rx ry ⟨W, h, a, b, Wx, σ', rl, qa, qb, p⟩ hs
  | some kvs =>
    rw [e] at p
    dsimp only at p
    by_cases hk : keyB b = true
    · rw [if_pos hk] at p
      obtain ⟨k, ek⟩ := key_vr qb hk
      subst ek
      obtain ⟨n, a', qs, _, eu, _, _, eH, d⟩ := dct_at rl qa e
      rcases d.look qb with ⟨l1, l2⟩ | ⟨w, r, l1, l2, qw⟩
      · rw [l1] at p
        exact p.elim
      · rw [l1] at p
        exact ix_dict hu value slice pins s σ H x _ v u Q I rx ry ⟨a', r, eu, by rw [← l2]; exact .k eH, p.ok rl qw⟩ hs
    · rw [if_neg hk] at p
      exact p.elim
theorem cut_rel {xs : List LV} {rs : List V} (q : VRs K ad W xs rs) (lo hi : Option Int) : VRs K ad W (cut xs lo hi) (cutV rs lo hi) := by
  unfold cut cutV
  rw [q.length]
  exact (q.drop _).take _
theorem cut_all {α : Type} {xs : List α} {lo hi : Option Int} (w : HT.sIx xs.length 0 lo = 0 ∧ HT.sIx xs.length xs.length hi = xs.length) : cut xs lo hi = xs := by
  unfold cut
  rw [w.1, w.2]
  simp
theorem cut_str (s : List Nat) (lo hi : Option Int) : cutS ⟨s.toArray⟩ lo hi = ⟨(cut s lo hi).toArray⟩ := by
  unfold cutS cut
  rw [str_len]
theorem cut_map {α β : Type} (f : α → β) (xs : List α) (lo hi : Option Int) : cut (xs.map f) lo hi = (cut xs lo hi).map f := by
  unfold cut
  rw [List.length_map, List.map_take, List.map_drop]
/-- what a slice is wanted of -/
def rSl (K : PySem.W.Frag) : V → Option Int → Option Int → Hp → VK → Prop := fun x lo hi H Q => ∃ (W : Wd) (h : Hh) (a : LV) (Wx : WX) (σ : St), Rel K ad W h H ∧ VR K ad W a x ∧ Post K ad (VR K ad) Wx W σ Q (sliceV a lo hi h)
theorem sl_any : SlR X (rSl ad X.K) := by
  intro pins s σ H x v vl vu lo hi sl Q I rx hs pl pu ⟨W, h, a, Wx, σ', rl, qa, p⟩
  have lists : (match lstOf h a with
      | some xs => Res.ok (.lst (cut xs lo hi)) h
      | none => .bad) = sliceV a lo hi h → ∃ T id, typeLookup (.type T) "__getitem__" = pure (some (.builtin id)) ∧ s.TypeIs v T ∧ wpAny (model X.prog X.w) X.A (getItem v (.ref sl)) (EP X pins σ Q) X.xe s := fun e => by
    rw [← e] at p
    cases e1 : lstOf h a with
    | none => rw [e1] at p; exact p.elim
    | some xs =>
      rw [e1] at p
      obtain ⟨pa, ra, rfl, sa, va⟩ := lst_sq rl qa e1
      refine sl_list pins s σ H _ v vl vu lo hi sl Q I rx hs pl pu ⟨pa, ra, rfl, sa, fun q hq => ?_⟩
      have f := rl.fresh hq
      exact p (W.frz q (.lst (cutV ra lo hi))) (.ref q) _ (Wd.le_frz f.1) (rl.newF hq) (.lst Wd.frz_at ((cut_rel ad va lo hi).mono X.K ad (Wd.le_frz f.1)))
  cases qa with
  | str t g =>
    have p' : Post X.K ad (VR X.K ad) Wx W σ' Q (if t.length ≤ line then .ok (.str (cut t lo hi)) h else .bad) := p
    by_cases hl : t.length ≤ line
    · rw [if_pos hl] at p'
      refine sl_str pins s σ H _ v vl vu lo hi sl Q I rx hs pl pu ⟨_, rfl, ?_, ?_⟩
      · rw [str_len, ← line_eq]
        exact hl
      · rw [cut_str]
        exact p'.ok rl (.str _ fun c hc => g c (List.mem_of_mem_drop (List.mem_of_mem_take hc)))
    · rw [if_neg hl] at p'
      exact p'.elim
  | @tup a1 xs ra f1 q1 =>
    have p' : Post X.K ad (VR X.K ad) Wx W σ' Q (.ok (.tup (cut xs lo hi)) h) := p
    refine sl_tupA pins s σ H _ v vl vu lo hi sl Q I rx hs pl pu ⟨a1, ra, rfl, .inl (rl.fz _ _ f1), fun w => ?_, fun _ q hq => ?_⟩
    · have e : cut xs lo hi = xs := cut_all (by rw [q1.length]; exact w)
      rw [e] at p'
      exact p'.ok rl (.tup f1 q1)
    · have f := rl.fresh hq
      exact p' (W.frz q (.tup (cutV ra lo hi))) (.ref q) _ (Wd.le_frz f.1) (rl.newF hq) (.tup Wd.frz_at ((cut_rel ad q1 lo hi).mono X.K ad (Wd.le_frz f.1)))
  | @scr a1 ns f1 =>
    have p' : Post X.K ad (VR X.K ad) Wx W σ' Q (.ok (.lst ((cut ns lo hi).map .int)) h) := p
    refine sl_list pins s σ H _ v vl vu lo hi sl Q I rx hs pl pu ⟨a1, _, rfl, f1.sq rl, fun q hq => ?_⟩
    have f := rl.fresh hq
    have e : cutV (ns.map V.int) lo hi = (cut ns lo hi).map V.int := cut_map V.int ns lo hi
    rw [e]
    exact p' (W.frz q (.lst ((cut ns lo hi).map V.int))) (.ref q) _ (Wd.le_frz f.1) (rl.newF hq) (.lst Wd.frz_at (VRs.ints _))
  | _ => exact lists rfl
/-- o[i] = v -/
def rSetM (K : PySem.W.Frag) : TSet := fun o i v H Q => ∃ (W : Wd) (h : Hh) (a b c : LV) (Wx : WX) (σ : St), Rel K ad W h H ∧ VR K ad W a o ∧ VR K ad W b i ∧ VR K ad W c v ∧ Post K ad (fun _ (_ : Unit) (_ : Unit) => True) Wx W σ (fun _ H' => Q H') (setV a b c h)
def rSetM0 (K : PySem.W.Frag) : TSet := fun o i v H Q => ∃ (W : Wd) (h : Hh) (a b c : LV) (Wx : WX) (σ : St), Rel K ad W h H ∧ VR K ad W a o ∧ VR K ad W b i ∧ VR K ad W c v ∧ Post K ad (fun _ (_ : Unit) (_ : Unit) => True) Wx W σ (fun _ H' => Q H') (setV0 a b c h)
theorem set_any0 : PSet X (rSetM0 ad X.K) := by
  intro pins s σ H o i v ov iv u Q I ro ri rv ⟨W, h, a, b, c, Wx, σ', rl, qa, qb, qc, p⟩
  cases qa with
  | @ref n pa hn =>
    cases qb with
    | int k =>
      have p' : Post X.K ad (fun _ (_ : Unit) (_ : Unit) => True) Wx W σ' (fun _ H' => Q H') (match h[n]? with
        | some (.lst xs) => match ixN xs.length k with
          | some j => Res.ok () (h.set n (.lst (xs.set j c)))
          | none => .bad
        | _ => .bad) := p
      cases e1 : h[n]? with
      | none => rw [e1] at p'; exact p'.elim
      | some ob =>
        rw [e1] at p'
        cases ob with
        | lst xs =>
          dsimp only at p'
          cases e2 : ixN xs.length k with
          | none => rw [e2] at p'; exact p'.elim
          | some j =>
            rw [e2] at p'
            obtain ⟨w, e3, rs, e4, va⟩ := rl.cl n pa _ hn e1
            subst e4
            refine set_list pins s σ H _ _ v ov iv u Q I ro ri rv ⟨pa, rs, k, j, rfl, rfl, e3, by rw [← va.length]; exact e2, ?_⟩
            exact p' W () _ .refl (rl.write hn e1 (by intro z; cases z) ⟨_, rfl, va.set qc j⟩) trivial
        | _ => exact p'.elim
    | _ => exact p.elim
  | _ => exact p.elim
theorem setV_cases (n : Nat) (i v : LV) (h : Hh) : (∃ kvs, h[n]? = some (.dct kvs) ∧ (setV (.ref n) i v h = .bad ∨ (keyB i = true ∧ kvs.length < line ∧ setV (.ref n) i v h = .ok () (h.set n (.dct (putD kvs i v)))))) ∨ setV (.ref n) i v h = setV0 (.ref n) i v h := by
  unfold setV
  dsimp only
  split
  · rename_i kvs e
    by_cases c : keyB i = true ∧ kvs.length < line
    · exact .inl ⟨kvs, e, .inr ⟨c.1, c.2, if_pos c⟩⟩
    · exact .inl ⟨kvs, e, .inl (if_neg c)⟩
  · exact .inr rfl
theorem set_any (hu : X.A.units + 1 < cLine) : PSet X (rSetM ad X.K) := by
  intro pins s σ H o i v ov iv u Q I ro ri rv ⟨W, h, a, b, c, Wx, σ', rl, qa, qb, qc, p⟩
  cases a with
  | ref n =>
    rcases setV_cases n b c h with ⟨kvs, e1, e2 | ⟨hk, hl, e2⟩⟩ | e2
    · rw [e2] at p
      exact p.elim
    · rw [e2] at p
      obtain ⟨k, ek⟩ := key_vr qb hk
      subst ek
      obtain ⟨n', a', qs, en, eu, hn, _, eH, d⟩ := dct_at rl qa (kvs := kvs) (by unfold dctOf; dsimp only; rw [e1])
      cases en
      subst eu
      obtain rfl : ov = Value.ref a' := ro
      have d2 := d.put qb qc
      refine d_setItem hu I (.k eH (by rw [← d.length, ← line_eq]; exact hl)) ri rv fun s4 I4 => ⟨_, I4, ?_⟩
      exact p W () _ .refl (rl.write hn e1 (by intro z; cases z) ⟨_, rfl, d2.to⟩) trivial
    · rw [e2] at p
      exact set_any0 ad pins s σ H o i v ov iv u Q I ro ri rv ⟨W, h, .ref n, b, c, Wx, σ', rl, qa, qb, qc, p⟩
  | _ => exact p.elim
/-! ### built-ins -/
def rCM (K : PySem.W.Frag) (f : List LV → M LV) : List V → Hp → VK → Prop := fun xs H Q => ∃ (W : Wd) (h : Hh) (as : List LV) (Wx : WX) (σ : St), Rel K ad W h H ∧ VRs K ad W as xs ∧ Post K ad (VR K ad) Wx W σ Q (f as h)
theorem intsL_rel {xs : List LV} {ns : List Int} {rs : List V} (e : intsL xs = some ns) (q : VRs K ad W xs rs) : rs = ns.map V.int := by
  induction xs generalizing ns rs with
  | nil => cases e; cases q; rfl
  | cons x xs ih =>
    cases q with
    | cons q1 q2 =>
      cases q1 with
      | int i =>
        have e' : (intsL xs).map (i :: ·) = some ns := e
        cases e1 : intsL xs with
        | none => rw [e1] at e'; cases e'
        | some ms =>
          rw [e1] at e'
          cases e'
          rw [ih e1 q2]
          rfl
      | _ => cases e
theorem blsL_rel {xs : List LV} {ns : List Bool} {rs : List V} (e : bls xs = some ns) (q : VRs K ad W xs rs) : rs = ns.map V.bl := by
  induction xs generalizing ns rs with
  | nil => cases e; cases q; rfl
  | cons x xs ih =>
    cases q with
    | cons q1 q2 =>
      cases q1 with
      | bl i =>
        have e' : (bls xs).map (i :: ·) = some ns := e
        cases e1 : bls xs with
        | none => rw [e1] at e'; cases e'
        | some ms =>
          rw [e1] at e'
          cases e'
          rw [ih e1 q2]
          rfl
      | _ => cases e
theorem strsL_rel {xs : List LV} {ns : List (List Nat)} {rs : List V} (e : strsL xs = some ns) (q : VRs K ad W xs rs) : rs = (ns.map fun t => (⟨t.toArray⟩ : Str)).map V.str ∧ ∀ t ∈ ns, strGood t := by
  induction xs generalizing ns rs with
  | nil => cases e; cases q; exact ⟨rfl, fun t ht => nomatch ht⟩
  | cons x xs ih =>
    cases q with
    | cons q1 q2 =>
      cases q1 with
      | str i g =>
        have e' : (strsL xs).map (i :: ·) = some ns := e
        cases e1 : strsL xs with
        | none => rw [e1] at e'; cases e'
        | some ms =>
          rw [e1] at e'
          cases e'
          obtain ⟨h1, h2⟩ := ih e1 q2
          exact ⟨by rw [h1]; rfl, fun t ht => (List.mem_cons.mp ht).elim (fun z => z ▸ g) (h2 t)⟩
      | _ => cases e
theorem one_of {xs : List LV} {rs : List V} {x : LV} (e : xs = [x]) (q : VRs K ad W xs rs) : ∃ r, rs = [r] ∧ VR K ad W x r := by
  subst e
  cases q with
  | cons q1 q2 => cases q2; exact ⟨_, rfl, q1⟩
/-- a built-in's id -/
def bfk : BFn → Value
  | .len => .builtin "len" | .abs => .builtin "abs" | .min => .builtin "min" | .max => .builtin "max" | .sum => .builtin "sum" | .any => .builtin "any" | .all => .builtin "all"
  | .int => .type "int" | .list => .type "list" | .listM => .type "list" | .tuple => .type "tuple"
theorem cr_fn (f : BFn) (hc : X.calm = true) : CallR X (bfk f) (rCM ad X.K (bcallV f)) := by
  intro pins s σ H xs us Q I r ⟨W, h, as, Wx, σ', rl, qa, p⟩
  cases f with
  | len =>
    match as, qa, p with
    | [v], qa, p =>
      obtain ⟨rv, rfl, qv⟩ := one_of ad rfl qa
      by_cases ho : ∃ t, v = .str t
      · obtain ⟨t, rfl⟩ := ho
        have p' : Post X.K ad (VR X.K ad) Wx W σ' Q (if t.length ≤ line then .ok (.int t.length) h else .bad) := p
        by_cases hl : t.length ≤ line
        · rw [if_pos hl] at p'
          cases qv
          refine call_len pins s σ H _ us Q I r ⟨_, t.length, rfl, ⟨by rw [str_len, ← line_eq]; exact hl, (str_len t).symm⟩, p'.ok rl (.int _)⟩
        · rw [if_neg hl] at p'
          exact p'.elim
      · have e0 : bcallV .len [v] h = (match seqOf h v with
          | some xs => .ok (.int xs.length) h
          | none => .bad) := by
          unfold bcallV
          cases v with
          | str s => exact absurd ⟨s, rfl⟩ ho
          | _ => rfl
        rw [e0] at p
        cases e1 : seqOf h v with
        | none => rw [e1] at p; exact p.elim
        | some ys =>
          rw [e1] at p
          obtain ⟨pa, ra, rfl, sa, va⟩ := seq_sq rl qv e1
          refine call_len pins s σ H _ us Q I r ⟨_, ys.length, rfl, ?_, p.ok rl (.int _)⟩
          rcases sa with sa | sa
          · exact .inl ⟨ra, sa, va.length⟩
          · exact .inr ⟨ra, sa, va.length⟩
    | [], _, p => exact p.elim
    | v :: _ :: _, _, p => cases v <;> exact p.elim
  | abs =>
    match as, qa, p with
    | [v], qa, p =>
      obtain ⟨rv, rfl, qv⟩ := one_of ad rfl qa
      cases qv with
      | int i => exact call_abs pins s σ H _ us Q I r ⟨i, rfl, p.ok rl (.int _)⟩
      | _ => exact p.elim
    | [], _, p => exact p.elim
    | v :: _ :: _, _, p => cases v <;> exact p.elim
  | min =>
    match as, qa, p with
    | [v, w], .cons q1 (.cons q2 .nil), p =>
      cases q1 with
      | int i =>
        cases q2 with
        | int j => exact call_min2 hc pins s σ H _ us Q I r ⟨i, j, rfl, p.ok rl (.int _)⟩
        | _ => exact p.elim
      | _ => exact p.elim
    | [], _, p => exact p.elim
    | [v], _, p => cases v <;> exact p.elim
    | v :: w :: _ :: _, _, p => cases v <;> first | exact p.elim | (cases w <;> exact p.elim)
  | max =>
    match as, qa, p with
    | [v, w], .cons q1 (.cons q2 .nil), p =>
      cases q1 with
      | int i =>
        cases q2 with
        | int j => exact call_max2 hc pins s σ H _ us Q I r ⟨i, j, rfl, p.ok rl (.int _)⟩
        | _ => exact p.elim
      | _ => exact p.elim
    | [], _, p => exact p.elim
    | [v], _, p => cases v <;> exact p.elim
    | v :: w :: _ :: _, _, p => cases v <;> first | exact p.elim | (cases w <;> exact p.elim)
  | sum =>
    match as, qa, p with
    | [v], qa, p =>
      obtain ⟨rv, rfl, qv⟩ := one_of ad rfl qa
      have p' : Post X.K ad (VR X.K ad) Wx W σ' Q (match lstOf h v with
        | some xs => match intsL xs with
          | some ns => .ok (.int ns.sum) h
          | none => .bad
        | none => .bad) := p
      cases e1 : lstOf h v with
      | none => rw [e1] at p'; exact p'.elim
      | some ys =>
        rw [e1] at p'
        dsimp only at p'
        cases e2 : intsL ys with
        | none => rw [e2] at p'; exact p'.elim
        | some ns =>
          rw [e2] at p'
          obtain ⟨pa, ra, rfl, sa, va⟩ := lst_sq rl qv e1
          have := intsL_rel ad e2 va
          subst this
          exact cr_sum hc pins s σ H _ us Q I r ⟨pa, ns, rfl, sa, p'.ok rl (.int _)⟩
    | [], _, p => exact p.elim
    | v :: _ :: _, _, p => cases v <;> exact p.elim
  | any =>
    match as, qa, p with
    | [v], qa, p =>
      obtain ⟨rv, rfl, qv⟩ := one_of ad rfl qa
      have p' : Post X.K ad (VR X.K ad) Wx W σ' Q (match lstOf h v with
        | some xs => match bls xs with
          | some ns => .ok (.bl (ns.any id)) h
          | none => .bad
        | none => .bad) := p
      cases e1 : lstOf h v with
      | none => rw [e1] at p'; exact p'.elim
      | some ys =>
        rw [e1] at p'
        dsimp only at p'
        cases e2 : bls ys with
        | none => rw [e2] at p'; exact p'.elim
        | some ns =>
          rw [e2] at p'
          obtain ⟨pa, ra, rfl, sa, va⟩ := lst_sq rl qv e1
          have := blsL_rel ad e2 va
          subst this
          exact cr_any hc pins s σ H _ us Q I r ⟨pa, ns, rfl, sa, p'.ok rl (.bl _)⟩
    | [], _, p => exact p.elim
    | v :: _ :: _, _, p => cases v <;> exact p.elim
  | all =>
    match as, qa, p with
    | [v], qa, p =>
      obtain ⟨rv, rfl, qv⟩ := one_of ad rfl qa
      have p' : Post X.K ad (VR X.K ad) Wx W σ' Q (match lstOf h v with
        | some xs => match bls xs with
          | some ns => .ok (.bl (ns.all id)) h
          | none => .bad
        | none => .bad) := p
      cases e1 : lstOf h v with
      | none => rw [e1] at p'; exact p'.elim
      | some ys =>
        rw [e1] at p'
        dsimp only at p'
        cases e2 : bls ys with
        | none => rw [e2] at p'; exact p'.elim
        | some ns =>
          rw [e2] at p'
          obtain ⟨pa, ra, rfl, sa, va⟩ := lst_sq rl qv e1
          have := blsL_rel ad e2 va
          subst this
          exact cr_all hc pins s σ H _ us Q I r ⟨pa, ns, rfl, sa, p'.ok rl (.bl _)⟩
    | [], _, p => exact p.elim
    | v :: _ :: _, _, p => cases v <;> exact p.elim
  | int =>
    match as, qa, p with
    | [v], qa, p =>
      obtain ⟨rv, rfl, qv⟩ := one_of ad rfl qa
      cases qv with
      | int i => exact call_int1 pins s σ H _ us Q I r (.inl ⟨i, rfl, p.ok rl (.int _)⟩)
      | _ => exact p.elim
    | [], _, p => exact p.elim
    | v :: _ :: _, _, p => cases v <;> exact p.elim
  | list =>
    match as, qa, p with
    | [v], qa, p =>
      obtain ⟨rv, rfl, qv⟩ := one_of ad rfl qa
      have p' : Post X.K ad (VR X.K ad) Wx W σ' Q (match seqOf h v with
        | some xs => .ok (.lst xs) h
        | none => .bad) := p
      cases e1 : seqOf h v with
      | none => rw [e1] at p'; exact p'.elim
      | some ys =>
        rw [e1] at p'
        obtain ⟨pa, ra, rfl, sa, va⟩ := seq_sq rl qv e1
        refine call_list_of pins s σ H _ us Q I r ⟨pa, ra, rfl, sa, fun q hq => ?_⟩
        have f := rl.fresh hq
        exact p' (W.frz q (.lst ra)) (.ref q) _ (Wd.le_frz f.1) (rl.newF hq) (.lst Wd.frz_at (va.mono X.K ad (Wd.le_frz f.1)))
    | [], _, p => exact p.elim
    | v :: _ :: _, _, p => cases v <;> exact p.elim
  | listM =>
    match as, qa, p with
    | [v], qa, p =>
      obtain ⟨rv, rfl, qv⟩ := one_of ad rfl qa
      have p' : Post X.K ad (VR X.K ad) Wx W σ' Q (match seqOf h v with
        | some xs => mkL true xs h
        | none => .bad) := p
      cases e1 : seqOf h v with
      | none => rw [e1] at p'; exact p'.elim
      | some ys =>
        rw [e1] at p'
        obtain ⟨pa, ra, rfl, sa, va⟩ := seq_sq rl qv e1
        exact call_list_of pins s σ H _ us Q I r ⟨pa, ra, rfl, sa, (mkL_ok rl va p').2⟩
    | [], _, p => exact p.elim
    | v :: _ :: _, _, p => cases v <;> exact p.elim
  | tuple =>
    match as, qa, p with
    | [v], qa, p =>
      obtain ⟨rv, rfl, qv⟩ := one_of ad rfl qa
      have p' : Post X.K ad (VR X.K ad) Wx W σ' Q (match seqOf h v with
        | some xs => .ok (.tup xs) h
        | none => .bad) := p
      cases e1 : seqOf h v with
      | none => rw [e1] at p'; exact p'.elim
      | some ys =>
        rw [e1] at p'
        by_cases ht : ∃ zs, v = .tup zs
        · obtain ⟨zs, rfl⟩ := ht
          cases e1
          cases qv with
          | tup f q => exact call_tuple_of pins s σ H _ us Q I r ⟨_, _, rfl, .inr ⟨.inl (rl.fz _ _ f), p'.ok rl (.tup f q)⟩⟩
        · obtain ⟨pa, ra, rfl, sa, va⟩ := seq_sq rl qv e1
          have sl : SqL X.K H pa ra := by
            rcases sa with sa | sa
            · exact sa
            · have : ∃ b rs, V.ref pa = .ref b ∧ SqL X.K H b rs ∧ VRs X.K ad W ys rs := by
                cases qv with
                | tup f q => exact absurd ⟨_, rfl⟩ ht
                | scr ns f => cases e1; exact ⟨_, _, rfl, f.sq rl, VRs.ints ns⟩
                | lst f q => exact lst_sq rl (.lst f q) e1
                | obj f g q => exact lst_sq rl (.obj f g q) e1
                | ref f => exact lst_sq rl (.ref f) e1
              obtain ⟨b, rs, e, s1, v1⟩ := this
              cases e
              obtain ⟨_, _, p1, _⟩ := I.list s1
              obtain ⟨_, _, p2, _⟩ := I.tuple sa
              obtain ⟨o1, _, g1, c1, _, _⟩ := p1
              obtain ⟨o2, g2, c2, _⟩ := p2
              rw [g1] at g2
              cases g2
              rw [c1] at c2
              exact absurd (Value.type.inj c2) (by decide)
          refine call_tuple_of pins s σ H _ us Q I r ⟨pa, ra, rfl, .inl ⟨sl, fun q hq => ?_⟩⟩
          have f := rl.fresh hq
          exact p' (W.frz q (.tup ra)) (.ref q) _ (Wd.le_frz f.1) (rl.newF hq) (.tup Wd.frz_at (va.mono X.K ad (Wd.le_frz f.1)))
    | [], _, p => exact p.elim
    | v :: _ :: _, _, p => cases v <;> exact p.elim
end
end Mn

set_option Elab.async false
set_option linter.all false
set_option maxRecDepth 100000
set_option maxHeartbeats 4000000
/-! Mini, part 6: expressions: each form's reading follows from the interpreter's. -/
namespace Mn
open PySem PySem.Spec PyProof.Rows L2
section
variable {X : Cx} {ad : String → Addr} {P : Prog} {cf : CF} {Wx : WX}
abbrev RV (K : PySem.W.Frag) (ad : String → Addr) : Wd → LV → V → Prop := VR K ad
abbrev RQ : Wd → Bool → Bool → Prop := fun _ b c => c = b

/-! ### names and constants -/
theorem e_loc {i : Nat} {x : Str} {pos : Pos} (hN : X.N[i]? = some x) (hv : Vis X.env.scope x) (hd : (x == ("__debug__" : Str)) = false) (hcd : (x == ("__classdict__" : Str)) = false) :
    PE X (.Name x pos) (tE X.K ad (evE P cf (.loc i)) Wx) := by
  refine peI (pe_var hN hv hd hcd) ?_
  rintro σ H Q ⟨W, env, h, er, rl, p⟩
  rw [evE] at p
  cases e : env[i]? with
  | none => rw [e] at p; exact p.elim
  | some o =>
    rw [e] at p
    cases o with
    | none => exact p.elim
    | some v =>
      obtain ⟨r, e1, q⟩ := er.at_ i v e
      exact ⟨r, e1, Post.ok (a := v) p rl q⟩
/-- a constant as the text has it -/
def cstB : LV → Const → Bool
  | .non, .none => true
  | .bl a, .bool b => a == b
  | .int a, .int b => decide (a = b)
  | .str s, .str x => decide (x.cps.toList = s) && s.all fun c => decide (c < 1114112)
  | _, _ => false
theorem e_cst {v : LV} {k : Const} {j : Nat} {pos : Pos} (hc : cstB v k = true) : PE X (.Constant k j pos) (tE X.K ad (evE P cf (.cst v)) Wx) := by
  have key : ∀ {c : V}, PE X (.Constant k j pos) (tC c) → (∀ W, VR X.K ad W v c) → PE X (.Constant k j pos) (tE X.K ad (evE P cf (.cst v)) Wx) := fun {c} h q => by
    refine peI h ?_
    rintro σ H Q ⟨W, env, h, er, rl, p⟩
    rw [evE] at p
    exact Post.ok (a := v) p rl (q W)
  cases v with
  | non => cases k with
    | none => exact key pe_non fun _ => .non
    | _ => cases hc
  | bl a => cases k with
    | bool b =>
      have : a = b := eq_of_beq hc
      subst this
      exact key pe_bl fun _ => .bl a
    | _ => cases hc
  | int a => cases k with
    | int b =>
      have : a = b := of_decide_eq_true hc
      subst this
      exact key pe_int fun _ => .int a
    | _ => cases hc
  | str s => cases k with
    | str x =>
      obtain ⟨h1, h2⟩ := Bool.and_eq_true_iff.mp (show (decide (x.cps.toList = s) && s.all fun c => decide (c < 1114112)) = true from hc)
      have e : x.cps.toList = s := of_decide_eq_true h1
      have e2 : x = ⟨s.toArray⟩ := by
        rw [← e]
      rw [e2]
      rw [e2] at key
      exact key pe_str fun _ => .str s fun c hc => of_decide_eq_true (List.all_eq_true.mp h2 c hc)
    | _ => cases hc
  | _ => cases k <;> cases hc
theorem e_glo {x : String} {pos : Pos} (hg : Gl X (Str.ofString x)) (hm : ∀ v, P.glob.lookup x = some v → ∃ r u, X.mg (Str.ofString x) = some u ∧ RelV r u ∧ ∀ W, VR X.K ad W v r) (hd : ((Str.ofString x) == ("__debug__" : Str)) = false) :
    PE X (.Name (Str.ofString x) pos) (tE X.K ad (evE P cf (.glo x)) Wx) := by
  refine ⟨fun pins s σ H Q I ⟨W, env, h, er, rl, p⟩ => ?_⟩
  rw [evE] at p
  cases e : P.glob.lookup x with
  | none => rw [e] at p; exact p.elim
  | some v =>
    rw [e] at p
    obtain ⟨r, u, h1, h2, h3⟩ := hm v e
    exact ld_glob I hg h1 ⟨r, H, I, h2, Post.ok (a := v) p rl (h3 W)⟩ hd
/-! ### two in a row -/
theorem two_of {α β : Type} {R : Wd → α → β → Prop} {K : PySem.W.Frag} {W : Wd} {env : Env} {h : Hh} {H : Hp} {σ : St} {Q : β → Hp → Prop} {ma mb : Env → M LV} {f : LV → LV → M α} (er : ER K ad W env σ) (rl : Rel K ad W h H)
    (p : Post K ad R Wx W σ Q ((do let x ← ma env; let y ← mb env; f x y) h)) {N : V → V → Hp → Prop}
    (n : ∀ W2 h2 H2 a b x y, Rel K ad W2 h2 H2 → VR K ad W2 a x → VR K ad W2 b y → Post K ad R Wx W2 σ Q (f a b h2) → N x y H2) :
    tE K ad ma Wx σ H fun x H1 => tE K ad mb Wx σ H1 fun y H2 => N x y H2 :=
  ⟨W, env, h, er, rl, p.seq fun a h1 W1 x H1 l1 rl1 qa p1 => ⟨W1, env, h1, er.mono K ad l1, rl1, p1.seq fun b h2 W2 y H2 l2 rl2 qb p2 => n W2 h2 H2 a b x y rl2 (qa.mono K ad l2) qb p2⟩⟩
theorem e_bin {op : BOp} {a b : E} {pa pb : Expr} {pos : Pos} (ha : PE X pa (tE X.K ad (evE P cf a) Wx)) (hb : PE X pb (tE X.K ad (evE P cf b) Wx)) : PE X (.BinOp pa (opk op) pb pos) (tE X.K ad (evE P cf (.bin op a b)) Wx) := by
  refine peI (pe_op (op_bin ad op) ha hb) ?_
  rintro σ H Q ⟨W, env, h, er, rl, p⟩
  rw [evE] at p
  exact two_of er rl p fun W2 h2 H2 x y x' y' rl2 qa qb p2 => ⟨W2, h2, x, y, Wx, σ, rl2, qa, qb, p2⟩
theorem e_neg {a : E} {pa : Expr} {pos : Pos} (ha : PE X pa (tE X.K ad (evE P cf a) Wx)) : PE X (.UnaryOp .USub pa pos) (tE X.K ad (evE P cf (.neg a)) Wx) := by
  refine peI (pe_un un_neg ha) ?_
  rintro σ H Q ⟨W, env, h, er, rl, p⟩
  rw [evE] at p
  refine ⟨W, env, h, er, rl, p.seq fun v h1 W1 x H1 l1 rl1 qa p1 => ?_⟩
  cases qa with
  | int i => exact ⟨i, rfl, Post.ok (a := LV.int (-i)) p1 rl1 (.int _)⟩
  | _ => exact p1.elim
/-- one value looked at as a truth -/
theorem tb_of {K : PySem.W.Frag} {W : Wd} {env : Env} {h : Hh} {H : Hp} {σ : St} {β α : Type} {R : Wd → α → β → Prop} {Q : β → Hp → Prop} {ma : Env → M LV} {f : Bool → M α} (er : ER K ad W env σ) (rl : Rel K ad W h H)
    (p : Post K ad R Wx W σ Q ((do let x ← ma env; let c ← toB x; f c) h)) {N : Bool → Hp → Prop}
    (n : ∀ W1 h1 H1 c, W.le W1 → Rel K ad W1 h1 H1 → Post K ad R Wx W1 σ Q (f c h1) → N c H1) : tT K ad ma Wx σ H N := by
  refine ⟨W, env, h, er, rl, ?_⟩
  have p' : Post K ad R Wx W σ Q (((do let v ← ma env; toB v : M Bool) >>= f) h) := by
    rw [bind_assoc']
    exact p
  exact p'.seq fun b h1 W1 c H1 l1 rl1 q p1 => by
    subst q
    exact n W1 h1 H1 c l1 rl1 p1
theorem toB_bl (b : Bool) : (toB (.bl b) : M Bool) = pure b := rfl
/-- .. as a value -/
theorem tbV_of {K : PySem.W.Frag} {W : Wd} {env : Env} {h : Hh} {H : Hp} {σ : St} {β α : Type} {R : Wd → α → β → Prop} {Q : β → Hp → Prop} {ma : Env → M LV} {f : Bool → M α} (er : ER K ad W env σ) (rl : Rel K ad W h H)
    (p : Post K ad R Wx W σ Q ((do let x ← ma env; let c ← toB x; f c) h)) {N : V → Hp → Prop}
    (n : ∀ W1 h1 H1 c, W.le W1 → Rel K ad W1 h1 H1 → Post K ad R Wx W1 σ Q (f c h1) → N (.bl c) H1) : tE K ad ma Wx σ H N := by
  refine ⟨W, env, h, er, rl, p.seq fun v h1 W1 x H1 l1 rl1 q p1 => ?_⟩
  cases q with
  | bl b =>
    rw [toB_bl, pure_bind'] at p1
    exact n W1 h1 H1 b l1 rl1 p1
  | _ =>
    rw [bind_bad rfl] at p1
    exact p1.elim
theorem e_not {a : E} {pa : Expr} {pos : Pos} (ha : PE X pa (tE X.K ad (evE P cf a) Wx)) : PE X (.UnaryOp .Not pa pos) (tE X.K ad (evE P cf (.not a)) Wx) := by
  refine peI (pe_not ha) ?_
  rintro σ H Q ⟨W, env, h, er, rl, p⟩
  rw [evE] at p
  exact tbV_of er rl p fun W1 h1 H1 c l rl1 p1 => ⟨c, rfl, Post.ok (a := LV.bl (!c)) p1 rl1 (.bl _)⟩
theorem e_and {a b : E} {pa pb : Expr} {rest : List Expr} {pos : Pos} (ha : PE X pa (tE X.K ad (evE P cf a) Wx)) (hb : PE X (.BoolOp .And (pb :: rest) pos) (tE X.K ad (evE P cf b) Wx)) :
    PE X (.BoolOp .And (pa :: pb :: rest) pos) (tE X.K ad (evE P cf (.and a b)) Wx) := by
  refine peI (pe_and ha hb) ?_
  rintro σ H Q ⟨W, env, h, er, rl, p⟩
  rw [evE] at p
  refine tbV_of er rl p fun W1 h1 H1 c l rl1 p1 => ⟨c, rfl, ?_⟩
  cases c with
  | true => exact ⟨W1, env, h1, er.mono X.K ad l, rl1, p1⟩
  | false => exact Post.ok (a := LV.bl false) p1 rl1 (.bl _)
theorem e_or {a b : E} {pa pb : Expr} {rest : List Expr} {pos : Pos} (ha : PE X pa (tE X.K ad (evE P cf a) Wx)) (hb : PE X (.BoolOp .Or (pb :: rest) pos) (tE X.K ad (evE P cf b) Wx)) :
    PE X (.BoolOp .Or (pa :: pb :: rest) pos) (tE X.K ad (evE P cf (.or a b)) Wx) := by
  refine peI (pe_or ha hb) ?_
  rintro σ H Q ⟨W, env, h, er, rl, p⟩
  rw [evE] at p
  refine tbV_of er rl p fun W1 h1 H1 c l rl1 p1 => ⟨c, rfl, ?_⟩
  cases c with
  | true => exact Post.ok (a := LV.bl true) p1 rl1 (.bl _)
  | false => exact ⟨W1, env, h1, er.mono X.K ad l, rl1, p1⟩
/-- the comparison's answer as a value -/
theorem cmp_post {K : PySem.W.Frag} {W : Wd} {h : Hh} {σ : St} {Q : VK} {m : M Bool} (p : Post K ad (VR K ad) Wx W σ Q ((do let r ← m; pure (.bl r) : M LV) h)) : Post K ad RB Wx W σ Q (m h) :=
  p.seq fun r h1 W1 b H1 l rl q p1 => by
    subst q
    exact Post.ok (a := LV.bl r) p1 rl (.bl _)
theorem r2_cmp {K : PySem.W.Frag} {op : COp} {W : Wd} {h : Hh} {H : Hp} {σ : St} {Q : VK} {a b : LV} {x y : V} (rl : Rel K ad W h H) (qa : VR K ad W a x) (qb : VR K ad W b y) (p : Post K ad (VR K ad) Wx W σ Q ((do let r ← cmpV op a b; pure (.bl r) : M LV) h)) :
    r2M ad K RB (cmpV op) x y H Q := ⟨W, h, a, b, Wx, σ, rl, qa, qb, cmp_post p⟩
theorem mark_ok {op : COp} {pb : Expr} (h : behindInMarks (copk op) pb = false) : behindInMarks (copk op) pb = false := h
theorem e_cmp {op : COp} {a b : E} {pa pb : Expr} {pos : Pos} (hu : X.A.units + 66 < cLine) (hm : behindInMarks (copk op) pb = false) (ha : PE X pa (tE X.K ad (evE P cf a) Wx)) (hb : PE X pb (tE X.K ad (evE P cf b) Wx)) :
    PE X (.Compare pa [copk op] [pb] pos) (tE X.K ad (evE P cf (.cmp op a b)) Wx) := by
  refine peI (pe_cmpR (op_cmp ad op hu) ha hb hm) ?_
  rintro σ H Q ⟨W, env, h, er, rl, p⟩
  rw [evE] at p
  exact two_of er rl p fun W2 h2 H2 x y x' y' rl2 qa qb p2 => r2_cmp rl2 qa qb p2
theorem t_cmp {op : COp} {a b : E} {pa pb : Expr} {pos : Pos} (hu : X.A.units + 66 < cLine) (hm : behindInMarks (copk op) pb = false) (ha : PE X pa (tE X.K ad (evE P cf a) Wx)) (hb : PE X pb (tE X.K ad (evE P cf b) Wx)) :
    PT X (.Compare pa [copk op] [pb] pos) (tT X.K ad (evE P cf (.cmp op a b)) Wx) := by
  refine ptI (pt_cmpR (op_cmp ad op hu) ha hb hm) ?_
  rintro σ H Q ⟨W, env, h, er, rl, p⟩
  rw [evE] at p
  simp only [bind_assoc'] at p
  refine two_of er rl p fun W2 h2 H2 x y x' y' rl2 qa qb p2 => ?_
  refine ⟨W2, h2, x, y, Wx, σ, rl2, qa, qb, p2.seq fun r h3 W3 c H3 l3 rl3 q p3 => ⟨r, q, ?_⟩⟩
  rw [pure_bind', toB_bl] at p3
  exact Post.ok (a := r) p3 rl3 rfl
theorem three_of {α β : Type} {R : Wd → α → β → Prop} {K : PySem.W.Frag} {W : Wd} {env : Env} {h : Hh} {H : Hp} {σ : St} {Q : β → Hp → Prop} {ma mb : Env → M LV} {op : COp} {f : LV → Bool → M α} (er : ER K ad W env σ) (rl : Rel K ad W h H)
    (p : Post K ad R Wx W σ Q ((do let x ← ma env; let y ← mb env; let r ← cmpV op x y; f y r) h)) {N : V → Bool → Hp → Prop}
    (n : ∀ W2 h2 H2 b y r, W.le W2 → Rel K ad W2 h2 H2 → VR K ad W2 b y → Post K ad R Wx W2 σ Q (f b r h2) → N y r H2) :
    tE K ad ma Wx σ H fun x H1 => tE K ad mb Wx σ H1 fun y H2 => r2M ad K RB (cmpV op) x y H2 fun z H3 => ∃ k, z = .bl k ∧ N y k H3 := by
  refine ⟨W, env, h, er, rl, p.seq fun a h1 W1 x H1 l1 rl1 qa p1 => ⟨W1, env, h1, er.mono K ad l1, rl1, p1.seq fun b h2 W2 y H2 l2 rl2 qb p2 => ?_⟩⟩
  exact ⟨W2, h2, a, b, Wx, σ, rl2, qa.mono K ad l2, qb, p2.seq fun r h3 W3 c H3 l3 rl3 q p3 => ⟨r, q, n W3 h3 H3 b y r ((l1.trans l2).trans l3) rl3 (qb.mono K ad l3) p3⟩⟩
theorem e_chain {op op' : COp} {a b c : E} {pa pb pc : Expr} {pos : Pos} (hu : X.A.units + 66 < cLine) (ha : PE X pa (tE X.K ad (evE P cf a) Wx)) (hb : PE X pb (tE X.K ad (evE P cf b) Wx)) (hc : PE X pc (tE X.K ad (evE P cf c) Wx))
    (h1 : lastMarks [copk op, copk op'] [pb, pc] = false) :
    PE X (.Compare pa [copk op, copk op'] [pb, pc] pos) (tE X.K ad (evE P cf (.chain op op' a b c)) Wx) := by
  refine peI (pe_chain (op_cmp ad op hu) (op_cmp ad op' hu) ha hb hc h1) ?_
  rintro σ H Q ⟨W, env, h, er, rl, p⟩
  rw [evE] at p
  refine three_of er rl p fun W2 h2 H2 bv y r l rl2 qb p2 => ?_
  cases r with
  | true =>
    refine ⟨W2, env, h2, er.mono X.K ad l, rl2, p2.seq fun cv h3 W3 z H3 l3 rl3 qc p3 => ?_⟩
    exact r2_cmp rl3 (qb.mono X.K ad l3) qc p3
  | false => exact Post.ok (a := LV.bl false) p2 rl2 (.bl _)
theorem t_chain {op op' : COp} {a b c : E} {pa pb pc : Expr} {pos : Pos} (hu : X.A.units + 66 < cLine) (ha : PE X pa (tE X.K ad (evE P cf a) Wx)) (hb : PE X pb (tE X.K ad (evE P cf b) Wx)) (hc : PE X pc (tE X.K ad (evE P cf c) Wx))
    (h1 : lastMarks [copk op, copk op'] [pb, pc] = false) :
    PT X (.Compare pa [copk op, copk op'] [pb, pc] pos) (tT X.K ad (evE P cf (.chain op op' a b c)) Wx) := by
  refine ptI (pt_chain (op_cmp ad op hu) (op_cmp ad op' hu) ha hb hc h1) ?_
  rintro σ H Q ⟨W, env, h, er, rl, p⟩
  rw [evE] at p
  simp only [bind_assoc'] at p
  refine three_of er rl p fun W2 h2 H2 bv y r l rl2 qb p2 => ?_
  cases r with
  | true =>
    have p2' : Post X.K ad RQ Wx W2 σ Q ((do let z ← evE P cf c env; let r ← cmpV op' bv z; pure (.bl r) >>= toB : M Bool) h2) := by
      simpa only [bind_assoc'] using p2
    refine ⟨W2, env, h2, er.mono X.K ad l, rl2, p2'.seq fun cv h3 W3 z H3 l3 rl3 qc p3 => ?_⟩
    refine ⟨W3, h3, bv, cv, Wx, σ, rl3, qb.mono X.K ad l3, qc, p3.seq fun r h4 W4 c H4 l4 rl4 q p4 => ⟨r, q, ?_⟩⟩
    rw [pure_bind', toB_bl] at p4
    exact Post.ok (a := r) p4 rl4 rfl
  | false =>
    have p2' : Post X.K ad RQ Wx W2 σ Q (((pure (.bl false) : M LV) >>= toB) h2) := p2
    rw [pure_bind', toB_bl] at p2'
    first
      | exact ⟨false, rfl, Post.ok (a := false) p2' rl2 rfl⟩
      | exact Post.ok (a := false) p2' rl2 rfl
/-! ### tests -/
theorem t_val {e : E} {pe : Expr} (h : PE X pe (tE X.K ad (evE P cf e) Wx)) (he : ∀ whole, isTrue pe X.env whole = (do let v ← whole; standAt pe.pos; holding [v] (truthy v))) : PT X pe (tT X.K ad (evE P cf e) Wx) := by
  refine ptI (pt_val h he) ?_
  rintro σ H Q ⟨W, env, h, er, rl, p⟩
  refine ⟨W, env, h, er, rl, p.seq fun v h1 W1 x H1 l rl1 q p1 => ?_⟩
  cases q with
  | bl b => exact ⟨b, rfl, Post.ok (a := b) p1 rl1 rfl⟩
  | _ => exact p1.elim
theorem t_not {a : E} {pa : Expr} {pos : Pos} (ha : PT X pa (tT X.K ad (evE P cf a) Wx)) : PT X (.UnaryOp .Not pa pos) (tT X.K ad (evE P cf (.not a)) Wx) := by
  refine ptI (pt_not ha) ?_
  rintro σ H Q ⟨W, env, h, er, rl, p⟩
  rw [evE] at p
  simp only [bind_assoc', pure_bind', toB_bl] at p
  exact tb_of er rl p fun W1 h1 H1 c l rl1 p1 => Post.ok (a := !c) p1 rl1 rfl
theorem PT.pw {e : Expr} {t : TT} {op : BoolOp} {vs : List Expr} {pos : Pos} (h : PT X (.BoolOp op vs pos) t) : PW X (.BoolOp op vs pos) t := ⟨fun wh pins s σ H Q I q => h.run pins s σ H Q I q⟩
theorem t_and {a b : E} {pa pb : Expr} {rest : List Expr} {pos : Pos} (ha : PT X pa (tT X.K ad (evE P cf a) Wx)) (hb : PT X (.BoolOp .And (pb :: rest) pos) (tT X.K ad (evE P cf b) Wx)) :
    PT X (.BoolOp .And (pa :: pb :: rest) pos) (tT X.K ad (evE P cf (.and a b)) Wx) := by
  refine ptI (PW.pt (pw_and ha (PT.pw (e := pa) hb))) ?_
  rintro σ H Q ⟨W, env, h, er, rl, p⟩
  rw [evE] at p
  simp only [bind_assoc'] at p
  refine tb_of er rl p fun W1 h1 H1 c l rl1 p1 => ?_
  cases c with
  | true => exact ⟨W1, env, h1, er.mono X.K ad l, rl1, p1⟩
  | false =>
    have p2 : Post X.K ad RQ Wx W1 σ Q (((pure (.bl false) : M LV) >>= toB) h1) := p1
    rw [pure_bind', toB_bl] at p2
    exact Post.ok (a := false) p2 rl1 rfl
theorem t_or {a b : E} {pa pb : Expr} {rest : List Expr} {pos : Pos} (ha : PT X pa (tT X.K ad (evE P cf a) Wx)) (hb : PT X (.BoolOp .Or (pb :: rest) pos) (tT X.K ad (evE P cf b) Wx)) :
    PT X (.BoolOp .Or (pa :: pb :: rest) pos) (tT X.K ad (evE P cf (.or a b)) Wx) := by
  refine ptI (PW.pt (pw_or ha (PT.pw (e := pa) hb))) ?_
  rintro σ H Q ⟨W, env, h, er, rl, p⟩
  rw [evE] at p
  simp only [bind_assoc'] at p
  refine tb_of er rl p fun W1 h1 H1 c l rl1 p1 => ?_
  cases c with
  | true =>
    have p2 : Post X.K ad RQ Wx W1 σ Q (((pure (.bl true) : M LV) >>= toB) h1) := p1
    rw [pure_bind', toB_bl] at p2
    exact Post.ok (a := true) p2 rl1 rfl
  | false => exact ⟨W1, env, h1, er.mono X.K ad l, rl1, p1⟩
theorem t_one {op : BoolOp} {a : E} {pa : Expr} {pos : Pos} (ha : PT X pa (tT X.K ad (evE P cf a) Wx)) : PT X (.BoolOp op [pa] pos) (tT X.K ad (evE P cf a) Wx) := by
  cases op with
  | And => exact PW.pt (pw_and1 ha)
  | Or => exact PW.pt (pw_or1 ha)
theorem e_ite {c a b : E} {pc pa pb : Expr} {pos : Pos} (hc : PT X pc (tT X.K ad (evE P cf c) Wx)) (ha : PE X pa (tE X.K ad (evE P cf a) Wx)) (hb : PE X pb (tE X.K ad (evE P cf b) Wx)) :
    PE X (.IfExp pc pa pb pos) (tE X.K ad (evE P cf (.ite c a b)) Wx) := by
  refine peI (pe_ifExp hc ha hb) ?_
  rintro σ H Q ⟨W, env, h, er, rl, p⟩
  rw [evE] at p
  refine tb_of er rl p fun W1 h1 H1 c l rl1 p1 => ?_
  cases c with
  | true => exact ⟨W1, env, h1, er.mono X.K ad l, rl1, p1⟩
  | false => exact ⟨W1, env, h1, er.mono X.K ad l, rl1, p1⟩
theorem t_ite {c a b : E} {pc pa pb : Expr} {pos : Pos} (hc : PT X pc (tT X.K ad (evE P cf c) Wx)) (ha : PT X pa (tT X.K ad (evE P cf a) Wx)) (hb : PT X pb (tT X.K ad (evE P cf b) Wx)) :
    PT X (.IfExp pc pa pb pos) (tT X.K ad (evE P cf (.ite c a b)) Wx) := by
  refine ⟨fun pins s σ H Q I ⟨W, env, h, er, rl, p⟩ => ?_⟩
  rw [evE] at p
  simp only [bind_assoc'] at p
  have q : tT X.K ad (evE P cf c) Wx σ H fun k H1 => if k = true then tT X.K ad (evE P cf a) Wx σ H1 Q else tT X.K ad (evE P cf b) Wx σ H1 Q := by
    refine tb_of er rl p fun W1 h1 H1 c l rl1 p1 => ?_
    cases c with
    | true => exact ⟨W1, env, h1, er.mono X.K ad l, rl1, p1⟩
    | false => exact ⟨W1, env, h1, er.mono X.K ad l, rl1, p1⟩
  rw [arm_isTrue_IfExp]
  refine wpAny_bind (thn (hc.run pins s σ H _ I q) fun k s1 ⟨H1, I1, q1⟩ => ?_)
  cases k with
  | true => exact ha.run pins s1 σ H1 Q I1 q1
  | false => exact hb.run pins s1 σ H1 Q I1 q1
/-! ### subscripts, slices, displays -/
theorem e_sub (hu : X.A.units + 66 < cLine) {o i : E} {po pi_ : Expr} {pos : Pos} (ho : PE X po (tE X.K ad (evE P cf o) Wx)) (hi : PE X pi_ (tE X.K ad (evE P cf i) Wx)) (hs : PlainIx pi_) : PE X (.Subscript po pi_ pos) (tE X.K ad (evE P cf (.sub o i)) Wx) := by
  refine peI (pe_ix (ix_sub ad (by omega)) ho hi hs) ?_
  rintro σ H Q ⟨W, env, h, er, rl, p⟩
  rw [evE] at p
  exact two_of er rl p fun W2 h2 H2 x y x' y' rl2 qa qb p2 => ⟨W2, h2, x, y, Wx, σ, rl2, qa, qb, p2⟩
/-- an optional part -/
def tPo (K : PySem.W.Frag) (ad : String → Addr) (m : Env → M (List LV)) (Wx : WX) : St → Hp → (Option Int → Hp → Prop) → Prop := fun σ H Q => ∃ W env h, ER K ad W env σ ∧ Rel K ad W h H ∧
  Post K ad (fun _ (a : Option Int) (b : Option Int) => b = a) Wx W σ Q ((do let l ← m env; M.ofOpt (part l) : M (Option Int)) h)
theorem poI {e : Option Expr} {t t' : St → Hp → (Option Int → Hp → Prop) → Prop} (h : PO X e t) (i : ∀ σ H Q, t' σ H Q → t σ H Q) : PO X e t' := ⟨fun pins s σ H Q I q => h.run pins s σ H Q I (i σ H Q q)⟩
theorem po_nil : PO X none (tPo X.K ad (evs P cf .nil) Wx) := by
  refine poI po_none ?_
  rintro σ H Q ⟨W, env, h, er, rl, p⟩
  rw [evs, pure_bind'] at p
  exact Post.ok (a := none) p rl rfl
theorem po_one {e : E} {pe : Expr} (he : PE X pe (tE X.K ad (evE P cf e) Wx)) : PO X (some pe) (tPo X.K ad (evs P cf (.cons e .nil)) Wx) := by
  refine poI (po_some he) ?_
  rintro σ H Q ⟨W, env, h, er, rl, p⟩
  have p' : Post X.K ad (fun _ (a : Option Int) (b : Option Int) => b = a) Wx W σ Q ((do let x ← evE P cf e env; M.ofOpt (part [x]) : M (Option Int)) h) := by
    rw [evs, evs] at p
    simpa only [bind_assoc', pure_bind'] using p
  refine ⟨W, env, h, er, rl, p'.seq fun v h1 W1 x H1 l1 rl1 qa p1 => ?_⟩
  cases qa with
  | int i => exact ⟨i, rfl, Post.ok (a := some i) p1 rl1 rfl⟩
  | _ => exact p1.elim
theorem e_slice {o : E} {lo hi : Es} {po : Expr} {plo phi : Option Expr} {pos p2 : Pos} (ho : PE X po (tE X.K ad (evE P cf o) Wx)) (hl : PO X plo (tPo X.K ad (evs P cf lo) Wx)) (hh : PO X phi (tPo X.K ad (evs P cf hi) Wx)) :
    PE X (.Subscript po (.Slice plo phi none p2) pos) (tE X.K ad (evE P cf (.slice o lo hi)) Wx) := by
  refine peI (pe_slice (sl_any ad) ho hl hh) ?_
  rintro σ H Q ⟨W, env, h, er, rl, p⟩
  rw [evE] at p
  refine ⟨W, env, h, er, rl, p.seq fun v h1 W1 x H1 l1 rl1 qa p1 => ?_⟩
  have p2 : Post X.K ad (VR X.K ad) Wx W1 σ Q ((do let l ← (do let l ← evs P cf lo env; M.ofOpt (part l) : M (Option Int)); let u ← (do let u ← evs P cf hi env; M.ofOpt (part u) : M (Option Int)); sliceV v l u : M LV) h1) := by
    simpa only [bind_assoc'] using p1
  exact ⟨W1, env, h1, er.mono X.K ad l1, rl1, p2.seq fun lo' h2 W2 lo'' H2 l2 rl2 q2 p2 => by
    subst q2
    exact ⟨W2, env, h2, er.mono X.K ad (l1.trans l2), rl2, p2.seq fun hi' h3 W3 hi'' H3 l3 rl3 q3 p3 => by
      subst q3
      exact ⟨W3, h3, v, Wx, σ, rl3, qa.mono X.K ad (l2.trans l3), p3⟩⟩⟩
end
end Mn

set_option Elab.async false
set_option linter.all false
set_option maxRecDepth 100000
set_option maxHeartbeats 4000000
/-! Mini, part 7: arguments, displays, freezing, attributes, built-ins, repr. -/
namespace Mn
open PySem PySem.Spec PyProof.Rows L2

/-! ### field names -/
theorem chars_inj : ∀ {a b : List Char}, a.map Char.toNat = b.map Char.toNat → a = b
  | [], [], _ => rfl
  | [], _ :: _, h => by simp at h
  | _ :: _, [], h => by simp at h
  | a :: as, b :: bs, h => by
    simp only [List.map_cons, List.cons.injEq] at h
    rw [Char.toNat_inj.mp h.1, chars_inj h.2]
theorem ofString_inj {a b : String} (h : Str.ofString a = Str.ofString b) : a = b := by
  rw [Str.ofString_eq_toList, Str.ofString_eq_toList] at h
  have h2 := congrArg (fun z : Str => z.cps.toList) h
  simp only [List.toList_toArray] at h2
  exact String.toList_inj.mp (chars_inj h2)
section
variable {K : PySem.W.Frag} {ad : String → Addr} {W : Wd}
/-- fields by names -/
structure FRl (K : PySem.W.Frag) (ad : String → Addr) (W : Wd) (fs : List (String × LV)) (fr : List (Str × V)) : Prop where
  ks : fr.map (·.1) = fs.map (fun p => Str.ofString p.1)
  vs : VRs K ad W (fs.map (·.2)) (fr.map (·.2))
theorem FRl.cons_inv {p : String × LV} {fs : List (String × LV)} {fr : List (Str × V)} (h : FRl K ad W (p :: fs) fr) : ∃ r rest, fr = (Str.ofString p.1, r) :: rest ∧ VR K ad W p.2 r ∧ FRl K ad W fs rest := by
  obtain ⟨h1, h2⟩ := h
  cases fr with
  | nil => simp at h1
  | cons q rest =>
    simp only [List.map_cons, List.cons.injEq] at h1
    cases h2 with
    | cons a b =>
      refine ⟨q.2, rest, ?_, a, ⟨h1.2, b⟩⟩
      rw [← h1.1]
theorem FRl.cons {p : String × LV} {fs : List (String × LV)} {fr : List (Str × V)} {r : V} (a : VR K ad W p.2 r) (h : FRl K ad W fs fr) : FRl K ad W (p :: fs) ((Str.ofString p.1, r) :: fr) :=
  ⟨by simp only [List.map_cons]; rw [h.ks], .cons a h.vs⟩
theorem FRl.nil_inv {fr : List (Str × V)} (h : FRl K ad W [] fr) : fr = [] := by
  have := h.ks
  simpa using this
theorem FRl.lookup {f : String} : ∀ {fs : List (String × LV)} {fr : List (Str × V)}, FRl K ad W fs fr → (∀ v, fs.lookup f = some v → ∃ r, fr.lookup (Str.ofString f) = some r ∧ VR K ad W v r) ∧ (fs.lookup f = none → fr.lookup (Str.ofString f) = none)
  | [], fr, h => by
    rw [h.nil_inv]
    exact ⟨fun v e => by simp at e, fun _ => rfl⟩
  | (g, v) :: fs, fr, h => by
    obtain ⟨r, rest, e, a, t⟩ := h.cons_inv
    subst e
    obtain ⟨h1, h2⟩ := FRl.lookup (f := f) t
    by_cases z : f = g
    · subst z
      refine ⟨fun w e => ⟨r, by simp [List.lookup_cons], ?_⟩, fun e => by simp [List.lookup_cons] at e⟩
      have : v = w := by simpa [List.lookup_cons] using e
      subst this
      exact a
    · have z1 : (f == g) = false := by simp [z]
      have z2 : (Str.ofString f == Str.ofString g) = false := by
        simp only [beq_eq_false_iff_ne]
        exact fun q => z (ofString_inj q)
      rw [List.lookup_cons, z1]
      show (∀ w, fs.lookup f = some w → ∃ r, List.lookup (Str.ofString f) ((Str.ofString g, _) :: rest) = some r ∧ _) ∧ (fs.lookup f = none → List.lookup (Str.ofString f) ((Str.ofString g, _) :: rest) = none)
      rw [List.lookup_cons, z2]
      exact ⟨h1, h2⟩
theorem FRl.put {f : String} {v : LV} {r : V} (q : VR K ad W v r) : ∀ {fs : List (String × LV)} {fr : List (Str × V)}, FRl K ad W fs fr → FRl K ad W (putF f v fs) (L2.putF (Str.ofString f) r fr)
  | [], fr, h => by
    rw [h.nil_inv]
    exact ⟨rfl, .cons q .nil⟩
  | (g, w) :: fs, fr, h => by
    obtain ⟨x, rest, e, a, t⟩ := h.cons_inv
    subst e
    show FRl K ad W (if g = f then (f, v) :: fs else (g, w) :: putF f v fs) (if Str.ofString g = Str.ofString f then (Str.ofString g, r) :: rest else (Str.ofString g, x) :: L2.putF (Str.ofString f) r rest)
    by_cases z : g = f
    · rw [if_pos z, if_pos (congrArg Str.ofString z), z]
      exact FRl.cons (p := (f, v)) q t
    · rw [if_neg z, if_neg fun y => z (ofString_inj y)]
      exact FRl.cons (p := (g, w)) a (FRl.put q t)
theorem FRl.length {fs : List (String × LV)} {fr : List (Str × V)} (h : FRl K ad W fs fr) : fs.length = fr.length := by
  have := congrArg List.length h.ks
  simp only [List.length_map] at this
  exact this.symm
theorem zip_fst {α β : Type} : ∀ {a : List α} {b : List β}, a.length = b.length → (a.zip b).map (·.1) = a
  | [], _, _ => rfl
  | _ :: _, [], h => by simp at h
  | a :: as, b :: bs, h => by
    show a :: (as.zip bs).map (·.1) = _
    rw [zip_fst (by simpa using h)]
theorem zip_snd {α β : Type} : ∀ {a : List α} {b : List β}, a.length = b.length → (a.zip b).map (·.2) = b
  | [], [], _ => rfl
  | [], _ :: _, h => by simp at h
  | _ :: _, [], h => by simp at h
  | a :: as, b :: bs, h => by
    show b :: (as.zip bs).map (·.2) = _
    rw [zip_snd (by simpa using h)]
/-- an instance: in a cell or frozen -/
theorem ins_at {h : Hh} {H : Hp} (r : Rel K ad W h H) {v : LV} {u : V} {c : String} {fs : List (String × LV)} (q : VR K ad W v u) (e : view h v = some (.ins c fs)) :
    ∃ a dx fr, u = .ref a ∧ H a = some (.ins (ad c) dx fr) ∧ FRl K ad W fs fr := by
  unfold view at e
  cases q with
  | @obj a dx c' ks vs fr f g q2 =>
    cases e
    have hl : ks.length = vs.length := by
      have h1 := congrArg List.length g
      have h2 := q2.length
      simp only [List.length_map] at h1 h2
      rw [← h1, h2]
    refine ⟨a, dx, fr, rfl, r.fi _ _ _ _ f, ⟨?_, ?_⟩⟩
    · rw [g]
      have : (ks.zip vs).map (fun p => Str.ofString p.1) = ((ks.zip vs).map (·.1)).map Str.ofString := by rw [List.map_map]; rfl
      rw [this, zip_fst hl]
    · rw [zip_snd hl]
      exact q2
  | @ref n a hn =>
    dsimp only at e
    obtain ⟨w, e3, q2⟩ := r.cl n a _ hn e
    obtain ⟨dx, fr, e4, e5, q3⟩ := q2
    subst e4
    exact ⟨a, dx, fr, rfl, e3, ⟨e5, q3⟩⟩
  | _ => cases e
end

/-! ### what is known of the program -/
structure Gd (P : Prog) (ad : String → Addr) (K : PySem.W.Frag) (mg : Str → Option Value) : Prop where
  glob : ∀ x v, P.glob.lookup x = some v → ∃ r u, mg (Str.ofString x) = some u ∧ RelV r u ∧ ∀ W, VR K ad W v r
  free : ∀ x ∈ ["len", "abs", "min", "max", "sum", "any", "all", "int", "list", "tuple", "repr", "range", "enumerate", "zip", "isinstance", "sorted", "str", "dict", "set"], mg (Str.ofString x) = none
  fn : ∀ f ∈ P.defs, mg (Str.ofString f) = some (.ref (ad f)) ∧ PySem.W.keepIn K (.ref (ad f)) = true
  cls : ∀ c k, P.cls.lookup c = some k → mg (Str.ofString c) = some (.ref (ad c)) ∧ Cls K (ad c) ∧ Mk K (ad c) (ad k.init) ∧ (∀ f, k.fields.contains f = true → NoAttr K (ad c) (Str.ofString f)) ∧
    ∀ m g, k.meths.lookup m = some g → Meth K (ad c) (Str.ofString m) (ad g)

section
variable {X : Cx} {ad : String → Addr} {P : Prog} {cf : CF} {Wx : WX}
def isStar : Expr → Bool
  | .Starred _ _ => true
  | _ => false
theorem star_no {e : Expr} {es : List Expr} {env : PySem.Env} (h : isStar e = false) : starEach (e :: es) env = (false, eval e env) :: starEach es env := by
  cases e <;> first | rfl | cases h
theorem star_any_eq {env : PySem.Env} {pos : Pos} : ∀ es : List Expr, (backTo pos (starEach es env)).any (·.1) = es.any isStar
  | [] => rfl
  | e :: es => by
    have ih := star_any_eq (env := env) (pos := pos) es
    by_cases h : isStar e = true
    · cases e <;> first | cases h | skip
      show (true || (backTo pos (starEach es env)).any (·.1)) = (true || es.any isStar)
      rw [ih]
    · have h' : isStar e = false := by simpa using h
      rw [star_no h']
      show (false || (backTo pos (starEach es env)).any (·.1)) = (isStar e || es.any isStar)
      rw [ih, h']
theorem a_nil : PA X [] (tAr X.K ad (evs P cf .nil) Wx) := by
  refine paI pa_nil ?_
  rintro σ H Q ⟨W, env, h, er, rl, p⟩
  rw [evs] at p
  exact Post.ok (a := []) p rl .nil
theorem a_cons {e : E} {r : Es} {pe : Expr} {pes : List Expr} (hs : isStar pe = false) (he : PE X pe (tE X.K ad (evE P cf e) Wx)) (hr : PA X pes (tAr X.K ad (evs P cf r) Wx)) : PA X (pe :: pes) (tAr X.K ad (evs P cf (.cons e r)) Wx) := by
  refine paI (pa_cons he hr (star_no hs)) ?_
  rintro σ H Q ⟨W, env, h, er, rl, p⟩
  rw [evs] at p
  exact ⟨W, env, h, er, rl, p.seq fun v h1 W1 x H1 l1 rl1 qa p1 => ⟨W1, env, h1, er.mono X.K ad l1, rl1, p1.seq fun vs h2 W2 xs H2 l2 rl2 qs p2 => Post.ok (a := v :: vs) p2 rl2 (.cons (qa.mono X.K ad l2) qs)⟩⟩
theorem a_star {e : E} {r : Es} {pe : Expr} {pes : List Expr} {sp : Pos} (he : PE X pe (tE X.K ad (evE P cf e) Wx)) (hr : PA X pes (tAr X.K ad (evs P cf r) Wx)) : PA X (.Starred pe sp :: pes) (tAr X.K ad (evs P cf (.star e r)) Wx) := by
  refine paI (StX.pa_star he hr rfl) ?_
  rintro σ H Q ⟨W, env, h, er, rl, p⟩
  rw [evs] at p
  refine ⟨W, env, h, er, rl, p.seq fun v h1 W1 x H1 l1 rl1 qa p1 => ?_⟩
  cases e1 : seqOf h1 v with
  | none =>
    rw [bind_bad (seqM_none e1)] at p1
    exact p1.elim
  | some ys =>
    rw [bind_ok (seqM_some e1)] at p1
    obtain ⟨pa, ra, ex, sa, va⟩ := seq_sq rl1 qa e1
    refine ⟨pa, ra, ex, sa.symm, W1, env, h1, er.mono X.K ad l1, rl1, p1.seq fun vs h2 W2 xs H2 l2 rl2 qs p2 => ?_⟩
    exact Post.ok (a := ys ++ vs) p2 rl2 ((va.mono X.K ad l2).append qs)
theorem e_tup {es : Es} {pes : List Expr} {k : Nat} {pos : Pos} (h : PA X pes (tAr X.K ad (evs P cf es) Wx)) : PE X (.Tuple pes k pos) (tE X.K ad (evE P cf (.tup es)) Wx) := by
  refine peI (pe_tup h) ?_
  rintro σ H Q ⟨W, env, h, er, rl, p⟩
  rw [evE] at p
  exact ⟨W, env, h, er, rl, p.seq fun v h1 W1 x H1 l1 rl1 qa p1 => mkT_ok rl1 qa p1⟩
theorem e_list {mu : Bool} {es : Es} {pes : List Expr} {pos : Pos} (h : PA X pes (tAr X.K ad (evs P cf es) Wx)) : PE X (.List pes pos) (tE X.K ad (evE P cf (.list mu es)) Wx) := by
  refine peI (pe_lst h) ?_
  rintro σ H Q ⟨W, env, h, er, rl, p⟩
  rw [evE] at p
  exact ⟨W, env, h, er, rl, p.seq fun v h1 W1 x H1 l1 rl1 qa p1 => mkL_ok rl1 qa p1⟩
/-! ### freezing -/
/-- what freezing keeps -/
structure Fzd (W W' : Wd) (h h' : Hh) : Prop where
  le : W.le W'
  io : W'.io = W.io
  dead : ∀ n : Nat, h[n]? = some LO.dead → h'[n]? = some LO.dead
  out : ∀ (n : Nat) (a : Addr), W.io[n]? = some a → h[n]? = some LO.dead → W.F a = none → W'.F a = none
theorem Fzd.refl {W : Wd} {h : Hh} : Fzd W W h h := ⟨.refl, rfl, fun _ e => e, fun _ _ _ _ e => e⟩
theorem Fzd.trans {W W1 W2 : Wd} {h h1 h2 : Hh} (a : Fzd W W1 h h1) (b : Fzd W1 W2 h1 h2) : Fzd W W2 h h2 :=
  ⟨a.le.trans b.le, b.io.trans a.io, fun n e => b.dead n (a.dead n e), fun n x e1 e2 e3 => b.out n x (by rw [a.io]; exact e1) (a.dead n e2) (a.out n x e1 e2 e3)⟩
def FzP {α β : Type} (K : PySem.W.Frag) (ad : String → Addr) (R : Wd → α → β → Prop) (W : Wd) (h : Hh) (H : Hp) (r : β) : Res α → Prop
  | .ok v' h' => ∃ W', Fzd W W' h h' ∧ Rel K ad W' h' H ∧ R W' v' r
  | .exc _ _ => False
  | .bad => True
theorem FzP.bind {α β γ δ : Type} {K : PySem.W.Frag} {R : Wd → α → β → Prop} {R2 : Wd → γ → δ → Prop} {W : Wd} {h : Hh} {H : Hp} {r : β} {r2 : δ} {m : M α} {k : α → M γ} (p : FzP K ad R W h H r (m h))
    (n : ∀ v h1 W1, Fzd W W1 h h1 → Rel K ad W1 h1 H → R W1 v r → FzP K ad R2 W1 h1 H r2 (k v h1)) : FzP K ad R2 W h H r2 ((m >>= k) h) := by
  cases e : m h with
  | ok v h1 =>
    rw [e] at p
    obtain ⟨W1, f, rl, q⟩ := p
    rw [bind_ok e]
    have z := n v h1 W1 f rl q
    cases e2 : k v h1 with
    | ok w h2 =>
      rw [e2] at z
      obtain ⟨W2, f2, rl2, q2⟩ := z
      exact ⟨W2, f.trans f2, rl2, q2⟩
    | exc x h2 => rw [e2] at z; exact z
    | bad => trivial
  | exc x h1 => rw [e] at p; exact p.elim
  | bad =>
    rw [bind_bad e]
    trivial
theorem frzs_rel {K : PySem.W.Frag} {f : LV → M LV} (hf : ∀ (v : LV) (W : Wd) (h : Hh) (H : Hp) (r : V), Rel K ad W h H → VR K ad W v r → FzP K ad (VR K ad) W h H r (f v h)) :
    ∀ (vs : List LV) (W : Wd) (h : Hh) (H : Hp) (rs : List V), Rel K ad W h H → VRs K ad W vs rs → FzP K ad (VRs K ad) W h H rs (mapM' f vs h)
  | [], W, h, H, rs, rl, q => by
    cases q
    exact ⟨W, .refl, rl, .nil⟩
  | v :: vs, W, h, H, rs, rl, q => by
    cases q with
    | @cons _ _ r rs q1 q2 =>
      refine (hf v W h H r rl q1).bind fun y h1 W1 f1 rl1 qy => ?_
      refine (frzs_rel hf vs W1 h1 H rs rl1 (q2.mono K ad f1.le)).bind fun ys h2 W2 f2 rl2 qs => ?_
      exact ⟨W2, .refl, rl2, .cons (qy.mono K ad f2.le) qs⟩
theorem frz_rel {K : PySem.W.Frag} : ∀ (k : Nat) (v : LV) (W : Wd) (h : Hh) (H : Hp) (r : V), Rel K ad W h H → VR K ad W v r → FzP K ad (VR K ad) W h H r (frzV k v h)
  | 0, _, _, _, _, _, _, _ => trivial
  | k + 1, v, W, h, H, r, rl, q => by
    have ihs := frzs_rel (ad := ad) (K := K) (f := frzV k) (fun v W h H r => frz_rel k v W h H r)
    cases q with
    | non => exact ⟨W, .refl, rl, .non⟩
    | bl b => exact ⟨W, .refl, rl, .bl b⟩
    | int i => exact ⟨W, .refl, rl, .int i⟩
    | str s g => exact ⟨W, .refl, rl, .str s g⟩
    | scr ns f => exact ⟨W, .refl, rl, .scr ns f⟩
    | @tup a xs rs f q2 => exact (ihs xs W h H rs rl q2).bind fun ys h1 W1 f1 rl1 qs => ⟨W1, .refl, rl1, .tup (f1.le.fz _ _ f) qs⟩
    | @lst a xs rs f q2 => exact (ihs xs W h H rs rl q2).bind fun ys h1 W1 f1 rl1 qs => ⟨W1, .refl, rl1, .lst (f1.le.fz _ _ f) qs⟩
    | @obj a dx c ks vs fr f g q2 => exact (ihs vs W h H _ rl q2).bind fun ys h1 W1 f1 rl1 qs => ⟨W1, .refl, rl1, .obj (f1.le.fz _ _ f) g qs⟩
    | @ref n a hn =>
      -- the object at a is frozen behind what it holds
      have fin : ∀ {α β : Type} {R : Wd → α → β → Prop} {u : HO} {m : M α} {k : α → LV} {r : β} (o : LO), h[n]? = some o → o ≠ .dead → H a = some u →
          FzP K ad R W (h.set n .dead) H r (m (h.set n .dead)) → (∀ W1 ys, W1.F a = some u → (∀ W0 : Wd, W0.le W1 → R W0 ys r → VR K ad W1 (k ys) (.ref a))) →
          FzP K ad (VR K ad) W h H (.ref a) ((do let ys ← m; pure (k ys) : M LV) (h.set n .dead)) := by
        intro α β R u m k r o e1 e2 e3 p n2
        have hlt : n < h.length := (List.getElem?_eq_some_iff.mp e1).1
        cases e4 : m (h.set n .dead) with
        | bad =>
          rw [bind_bad e4]
          trivial
        | exc x h1 => rw [e4] at p; exact p.elim
        | ok ys h1 =>
          rw [e4] at p
          obtain ⟨W1, f1, rl1, q1⟩ := p
          rw [bind_ok e4]
          have hd : (h.set n LO.dead)[n]? = some LO.dead := List.getElem?_set_self hlt
          have F1 := f1.out n a hn hd (rl.dj n a o hn e1 e2)
          have hn1 : W1.io[n]? = some a := by rw [f1.io]; exact hn
          refine ⟨W1.frz a u, ⟨f1.le.trans (Wd.le_frz F1), f1.io, fun m e => ?_, fun m b g1 g2 g3 => ?_⟩, rl1.frz e3 F1 (fun m v g1 g2 => ?_) (fun q hq z => (rl1.pv q hq).2.2 (z ▸ List.mem_of_getElem? hn1)), n2 _ ys Wd.frz_at W1 (Wd.le_frz F1) q1⟩
          · refine f1.dead m ?_
            by_cases z : m = n
            · subst z
              exact hd
            · rw [List.getElem?_set_ne (Ne.symm z)]
              exact e
          · have z : b ≠ a := fun z => by
              subst z
              have := io_inj rl g1 hn
              subst this
              rw [e1] at g2
              cases g2
              exact e2 rfl
            refine (upd_ne z).trans (f1.out m b g1 ?_ g3)
            by_cases y : m = n
            · subst y
              exact hd
            · rw [List.getElem?_set_ne (Ne.symm y)]
              exact g2
          · have := io_inj rl1 g1 hn1
            subst this
            rw [f1.dead m hd] at g2
            cases g2
            rfl
      show FzP K ad (VR K ad) W h H (.ref a) (match h[n]? with
        | some (.lst xs) => (do let ys ← mapM' (frzV k) xs; pure (.lst ys) : M LV) (h.set n .dead)
        | some (.ins c fs) => (do let ys ← mapM' (frzV k) (fs.map (·.2)); pure (.obj c (fs.map (·.1)) ys) : M LV) (h.set n .dead)
        | _ => .bad)
      cases e1 : h[n]? with
      | none => trivial
      | some o =>
        obtain ⟨u, e3, q2⟩ := rl.cl n a o hn e1
        have rlk := rl.kill n
        cases o with
        | dead => trivial
        | dct kvs => trivial
        | lst xs =>
          obtain ⟨rs, e4, q3⟩ := q2
          subst e4
          exact fin (R := VRs K ad) (k := LV.lst) (r := rs) _ e1 (by intro z; cases z) e3 (ihs xs W _ H rs rlk q3) fun W1 ys f W0 l q => .lst f (q.mono K ad l)
        | ins c fs =>
          obtain ⟨dx, fr, e4, e5, q3⟩ := q2
          subst e4
          refine fin (R := VRs K ad) (k := LV.obj c (fs.map (·.1))) (r := fr.map (·.2)) _ e1 (by intro z; cases z) e3 (ihs _ W _ H _ rlk q3) fun W1 ys f W0 l q => .obj f ?_ (q.mono K ad l)
          rw [e5, List.map_map]
          rfl
theorem e_frz {e : E} {pe : Expr} (he : PE X pe (tE X.K ad (evE P cf e) Wx)) : PE X pe (tE X.K ad (evE P cf (.frz e)) Wx) := by
  refine peI he ?_
  rintro σ H Q ⟨W, env, h, er, rl, p⟩
  rw [evE] at p
  refine ⟨W, env, h, er, rl, p.seq fun v h1 W1 x H1 l1 rl1 qa p1 => ?_⟩
  have z := frz_rel (ad := ad) DEEP v W1 h1 H1 x rl1 qa
  cases e1 : frzV DEEP v h1 with
  | bad => rw [e1] at p1; exact p1.elim
  | exc y h2 => rw [e1] at z; exact z.elim
  | ok w h2 =>
    rw [e1] at z p1
    obtain ⟨W2, f, rl2, q⟩ := z
    exact p1 W2 x H1 f.le rl2 q
/-! ### attributes -/
def nullCall : Expr → Bool
  | .Call (.Name _ _) [] [] _ => true
  | _ => false
theorem attrBase {o : Expr} {f : Str} {env : PySem.Env} {whole : Sem Value} (h : nullCall o = false) : attributeBase o f env whole = whole := by
  unfold attributeBase
  split
  · rename_i id q pos _
    cases h
  · rfl
theorem e_attr (gd : Gd P ad X.K X.mg) {o : E} {f : String} {po : Expr} {pos : Pos} (hn : nullCall po = false) (ho : PE X po (tE X.K ad (evE P cf o) Wx)) : PE X (.Attribute po (Str.ofString f) pos) (tE X.K ad (evE P cf (.attr o f)) Wx) := by
  refine peI (pe_fld ho (attrBase hn)) ?_
  rintro σ H Q ⟨W, env, h, er, rl, p⟩
  rw [evE] at p
  refine ⟨W, env, h, er, rl, p.seq fun v h1 W1 x H1 l1 rl1 qa p1 => ?_⟩
  unfold getA at p1
  cases e1 : view h1 v with
  | none => rw [e1] at p1; exact p1.elim
  | some ob =>
    rw [e1] at p1
    cases ob with
    | ins c fs =>
      dsimp only at p1
      by_cases hf : isField P c f = true
      · rw [if_pos hf] at p1
        cases e2 : fs.lookup f with
        | none => rw [e2] at p1; exact p1.elim
        | some w =>
          rw [e2] at p1
          obtain ⟨a, dx, fr, ex, ea, q⟩ := ins_at rl1 qa e1
          obtain ⟨r, e3, qr⟩ := (q.lookup (f := f)).1 w e2
          unfold isField at hf
          cases e4 : P.cls.lookup c with
          | none => rw [e4] at hf; cases hf
          | some k =>
            rw [e4] at hf
            obtain ⟨g1, g2, g3, g4, g5⟩ := gd.cls c k e4
            exact ⟨a, ad c, dx, fr, r, ex, ea, g2, g4 f hf, e3, Post.ok (a := w) p1 rl1 qr⟩
      · rw [if_neg hf] at p1
        exact p1.elim
    | _ => exact p1.elim
/-! ### built-ins called by their names -/
def bfn : BFn → String
  | .len => "len" | .abs => "abs" | .min => "min" | .max => "max" | .sum => "sum" | .any => "any" | .all => "all" | .int => "int" | .list => "list" | .listM => "list" | .tuple => "tuple"
theorem bfn_boot (f : BFn) : bootBuiltins (Str.ofString (bfn f)) = some (bfk f) := by cases f <;> decide +kernel
theorem bfn_nm (f : BFn) : Str.ofString (bfn f) ≠ ("__name__" : Str) ∧ (Str.ofString (bfn f) == ("__debug__" : Str)) = false := by cases f <;> decide +kernel
theorem bfn_free (gd : Gd P ad X.K X.mg) (f : BFn) : X.mg (Str.ofString (bfn f)) = none := gd.free _ (by cases f <;> decide)
theorem e_bcall (gd : Gd P ad X.K X.mg) {f : BFn} {es : Es} {pe : Expr} {pes : List Expr} {p pos : Pos} (hc : X.calm = true) (hg : Gl X (Str.ofString (bfn f))) (hs : (pe :: pes).any isStar = false) (ha : PA X (pe :: pes) (tAr X.K ad (evs P cf es) Wx)) :
    PE X (.Call (.Name (Str.ofString (bfn f)) p) (pe :: pes) [] pos) (tE X.K ad (evE P cf (.bcall f es)) Wx) := by
  have hs1 : isStar pe = false ∧ pes.any isStar = false := by simpa using hs
  have hpl : (backTo pos (starEach pes X.env)).any (·.1) = false := by rw [star_any_eq]; exact hs1.2
  have key : PE X (.Call (.Name (Str.ofString (bfn f)) p) (pe :: pes) [] pos) (tCB (rCM ad X.K (bcallV f)) (tAr X.K ad (evs P cf es) Wx)) := by
    have hcr := cr_fn (X := X) ad f hc
    have hb := bfn_boot f
    cases hk : bfk f with
    | builtin id =>
      rw [hk] at hcr hb
      exact pe_callB hcr hg (bfn_free gd f) hb ha (bfn_nm f).1 (bfn_nm f).2 (star_no hs1.1) hpl
    | type T =>
      rw [hk] at hcr hb
      exact pe_callTy hcr hg (bfn_free gd f) hb ha (bfn_nm f).1 (bfn_nm f).2 (star_no hs1.1) hpl
    | _ => cases f <;> cases hk
  refine peI key ?_
  rintro σ H Q ⟨W, env, h, er, rl, p⟩
  rw [evE] at p
  exact ⟨W, env, h, er, rl, p.seq fun v h1 W1 x H1 l1 rl1 qa p1 => ⟨W1, h1, v, Wx, σ, rl1, qa, p1⟩⟩
/-! ### repr(a) == repr(b) -/
theorem cr_repr (hg : X.A.guards = some []) (hu : X.A.units + 66 < cLine) : CallR X (.builtin "repr") (fun xs H Q => ∃ x d, xs = [x] ∧ Dp X.K H x d ∧ SeqAt.shaped d = true ∧ d.showable = true ∧ d.shown.length ≤ sizeLine ∧ Q (.str d.shown) H) := by
  intro pins s σ H xs us Q I r ⟨x, d, ex, hd, sd, sh, sz, q⟩
  subst ex
  obtain ⟨u, eu, ru⟩ := vals1 r
  subst eu
  have fin : ∀ {t : Tok} {tk : Nat}, EP X pins σ Q (.str d.shown t) { s with toks := tk } := ⟨.str _, H, I.tok _, ⟨_, rfl⟩, q⟩
  obtain ⟨as, rd⟩ := Dp.reads I d x u hd ru
  cases hd with
  | non =>
    cases ru
    exact PySem.P.repr_of_none fin
  | bl b =>
    cases ru
    exact PySem.P.repr_of_bool fin
  | int i =>
    obtain ⟨t, rfl⟩ := ru
    exact PySem.P.repr_of_int (of_decide_eq_true sh) fin
  | str y =>
    obtain ⟨t, rfl⟩ := ru
    exact PySem.P.repr_of_str fin sz
  | lst h1 h2 =>
    cases ru
    refine repr_of_reads' rd sh (PyData.noDict_hsm (PyData.hasDict_of_canLay _ (SeqAt.canLay_of_shaped sd))) hg (by have := SeqAt.depth_of_shaped sd; omega) (fun _ _ e => e) (fun h' u tk k => ?_) sz
    exact ⟨.str _, H, I.kept k, ⟨_, rfl⟩, q⟩
  | tup h1 h2 =>
    cases ru
    refine repr_of_reads' rd sh (PyData.noDict_hsm (PyData.hasDict_of_canLay _ (SeqAt.canLay_of_shaped sd))) hg (by have := SeqAt.depth_of_shaped sd; omega) (fun _ _ e => e) (fun h' u tk k => ?_) sz
    exact ⟨.str _, H, I.kept k, ⟨_, rfl⟩, q⟩
end
end Mn
namespace Mn
open PySem PySem.Spec PyProof.Rows L2
/-! ### own calls -/
/-- room for calls at level n: each may be by way of a class -/
structure RoomG (n : Nat) (A : Around) : Prop where
  room : Room (2 * n) A
  gd : A.guards = some []
/-- what a caller of f says -/
def spG (ad : String → Addr) (K : PySem.W.Frag) (cf : CF) (f : String) (vs : List V) (ks : List String) (zs : List V) (H : Hp) (Q : VK) (E : XK) : Prop :=
  ∃ (W : Wd) (h : Hh) (lv lz : List LV), Rel K ad W h H ∧ VRs K ad W lv vs ∧ VRs K ad W lz zs ∧ Post K ad (VR K ad) (fun cls d _ H' => E cls d H') W [] Q (cf f lv (ks.zip lz) h)
/-- the def f keeps what the interpreter says -/
def FnG (ad : String → Addr) (cf : CF) (n : Nat) (prog : Program) (w : World) (K : PySem.W.Frag) (mg : Str → Option Value) (base : Heap) (f : String) : Prop :=
  ∀ (A : Around) (outer : List PySem.Env) (s : Shared) (H : Hp) (us ws : List Value) (vs zs : List V) (ks : List String) (Q : VK) (E : XK), RoomG n A → Env0 prog w K mg base A outer s H → Vals vs us → Vals zs ws → spG ad K cf f vs ks zs H Q E →
    codeAny (model prog w) A (.call (.ref (ad f)) ⟨us, (ks.map Str.ofString).zip ws⟩) (CR (L2.CX prog w) outer prog w H s Q E) s
section
variable {X : Cx} {ad : String → Addr} {P : Prog} {cf : CF} {Wx : WX} {n : Nat}
theorem run_G {pins : List (Addr × Obj)} {σ : St} {H : Hp} {s : Shared} {Q : VK} {us ws : List Value} {vs zs : List V} {f : String} {ks : List String} (F : FnG ad cf n X.prog X.w X.K X.mg X.base f) (hr : RoomG n X.A) (tk : Takes X Wx)
    (I : Inv X pins σ H s) (r : Vals vs us) (rz : Vals zs ws) (h : spG ad X.K cf f vs ks zs H Q fun cls d H' => Wx cls d σ H') : wpAny (model X.prog X.w) X.A (call (.ref (ad f)) us ((ks.map Str.ofString).zip ws)) (EP X pins σ Q) X.xe s := by
  refine wpAny_call (codeAny_mono (F X.A X.stack s H us ws vs zs ks Q _ hr I.env0 r rz h) fun r s' hq => ?_)
  cases r with
  | error e => exact tk e s' (XE.of_call I (fun _ _ _ z => z) hq)
  | ok fl =>
    cases fl with
    | ret u => exact I.after hq
    | next => exact False.elim hq
    | brk => exact False.elim hq
    | cont => exact False.elim hq
/-- C(..): a new instance, then its __init__ -/
theorem make_G {pins : List (Addr × Obj)} {σ : St} {H : Hp} {s : Shared} {Q : VK} {us ws : List Value} {vs zs : List V} {C : Addr} {f : String} {ks : List String} (M : Mk X.K C (ad f)) (F : FnG ad cf n X.prog X.w X.K X.mg X.base f) (hr : Room (2 * n + 1) X.A) (hg : X.A.guards = some []) (tk : Takes X Wx)
    (I : Inv X pins σ H s) (r : Vals vs us) (rz : Vals zs ws)
    (h : ∀ x dx, H x = none → H dx = none → dx ≠ x → spG ad X.K cf f (.ref x :: vs) ks zs (upd (upd H dx (.own x)) x (.ins C dx [])) (fun v H2 => v = .non ∧ Q (.ref x) H2) fun cls d H' => Wx cls d σ H') :
    wpAny (model X.prog X.w) X.A (call (.ref C) us ((ks.map Str.ofString).zip ws)) (EP X pins σ Q) X.xe s := by
  have hq := h (s.heap.objs.size + 1) s.heap.objs.size (I.hok.fresh (Nat.le_succ _)) (I.hok.fresh (Nat.le_refl _)) (Nat.ne_of_lt (Nat.lt_succ_self _))
  have I2 := Inv.made (C := C) I
  have r1 : Vals (V.ref (s.heap.objs.size + 1) :: vs) (Value.ref (s.heap.objs.size + 1) :: us) := .cons rfl r
  have hgu : (X.A.under (.builtin "type.__call__" ⟨.ref C :: us, (ks.map Str.ofString).zip ws⟩)).guards = some [] := by
    first
      | exact hg
      | simpa [Around.under, Code.guards, Code.isGuard, pushGuards] using hg
  refine wpAny_call (make_map (f := ad f) I.kIn M.makes M.init (beq_iff_eq.mp M.fn) (codeAny_mono (F _ X.stack _ _ (Value.ref (s.heap.objs.size + 1) :: us) ws (.ref (s.heap.objs.size + 1) :: vs) zs ks _ _ ⟨hr.make C us ((ks.map Str.ofString).zip ws), hgu⟩
    (I2.env0.make C us ((ks.map Str.ofString).zip ws)) r1 rz hq) fun r s' hq' => ?_))
  cases r with
  | error e => exact tk e s' (XE.of_call I2 (fun _ _ _ z => z) hq')
  | ok fl =>
    cases fl with
    | ret u =>
      obtain ⟨v, H', I3, rv, ev, q3⟩ := I2.after hq'
      subst ev
      exact ⟨rv, ⟨V.ref (s.heap.objs.size + 1), H', I3, rfl, q3⟩⟩
    | next => exact False.elim hq'
    | brk => exact False.elim hq'
    | cont => exact False.elim hq'
def kwName : Keyword → Option Str
  | ⟨nm, _, _⟩ => nm
theorem kw_all {env : PySem.Env} {pos : Pos} : ∀ kws : List Keyword, (backToKw pos (keywordEach kws env)).all (·.1.isSome) = kws.all (fun k => (kwName k).isSome)
  | [] => rfl
  | ⟨nm, e, p⟩ :: r => by
    show (nm.isSome && (backToKw pos (keywordEach r env)).all (·.1.isSome)) = _
    rw [kw_all r]
    rfl
theorem kw_any {env : PySem.Env} {pos : Pos} : ∀ kws : List Keyword, kws.all (fun k => (kwName k).isSome) = true → (backToKw pos (keywordEach kws env)).any (·.1.isNone) = false
  | [], _ => rfl
  | ⟨nm, e, p⟩ :: r, h => by
    simp only [List.all_cons, Bool.and_eq_true] at h
    show (nm.isNone || (backToKw pos (keywordEach r env)).any (·.1.isNone)) = false
    rw [kw_any r h.2]
    have : nm.isSome = true := h.1
    cases nm with
    | none => cases this
    | some x => rfl
theorem kw_names {env : PySem.Env} {pos : Pos} : ∀ kws : List Keyword, (backToKw pos (keywordEach kws env)).filterMap (·.1) = kws.filterMap kwName
  | [] => rfl
  | ⟨nm, e, p⟩ :: r => by
    show ((nm, _) :: backToKw pos (keywordEach r env)).filterMap (·.1) = (⟨nm, e, p⟩ :: r).filterMap kwName
    rw [List.filterMap_cons, List.filterMap_cons, kw_names r]
    rfl
/-- the forms of arguments that are served -/
def okArgs (args : List Expr) (kws : List Keyword) : Bool := (match args with
  | [] => true
  | e :: es => !isStar e && (kws.isEmpty || !(es.any isStar))) && kws.all (fun k => (kwName k).isSome)
theorem evalArgs_any {M : Model} {A : Around} {E : Value → Shared → Prop} {s : Shared} {f : Value} {trees : List (Bool × Sem Value)} {kws : List (Option Str × Sem Value)} {Q : Args → Shared → Prop} (hl : ∀ x, trees ≠ [(true, x)]) (hall : kws.all (·.1.isSome) = true)
    (h : wpAny M A (spliced trees) (fun vs s₁ => wpAny M A (evalAll (kws.map (·.2))) (fun ks s₂ => Q ⟨vs, (kws.filterMap (·.1)).zip ks⟩ s₂) E s₁) E s) : wpAny M A (evalArgs f true trees kws) Q E s := by
  have key : evalArgs f true trees kws = (do
      let vs ← spliced trees
      holding (vs ++ []) do
        let kw := (kws.filterMap (·.1)).zip (← evalAll (kws.map (·.2)))
        return ⟨vs, kw⟩) := by
    unfold evalArgs
    match trees, hl with
    | [], _ => simp only [hall, if_true, Option.toList] <;> rfl
    | (false, x) :: rest, _ => simp only [hall, if_true, Option.toList] <;> rfl
    | [(true, x)], hl => exact absurd rfl (hl x)
    | (true, x) :: y :: rest, _ => simp only [hall, if_true, Option.toList] <;> rfl
  rw [key]
  refine wpAny_bind (wpAny_mono h (fun vs s₁ h₁ => ?_) fun _ _ x => x)
  refine wpAny_holding ?_
  exact wpAny_bind (wpAny_mono h₁ (fun ks s₂ h₂ => wpAny_pure h₂) fun _ _ x => x)
theorem args_of {pins : List (Addr × Obj)} {σ : St} {H : Hp} {s : Shared} {Qf : Value → Shared → Prop} {args : List Expr} {kws : List Keyword} {ta tk : TA} {f : Value} {first : List Value} {pos : Pos} {N : List V → List V → Hp → Prop}
    (ok : okArgs args kws = true) (hk : PySem.W.keepIn X.K f = true) (ha : PA X args ta) (hkw : PK X kws tk) (I : Inv X pins σ H s) (h : ta σ H fun vs H1 => tk σ H1 fun zs H2 => N vs zs H2)
    (q : ∀ us ws s2 vs zs H2, Inv X pins σ H2 s2 → Vals vs us → Vals zs ws → N vs zs H2 → wpAny (model X.prog X.w) X.A (call f (first ++ us) ((kws.filterMap kwName).zip ws)) Qf X.xe s2) :
    wpAny (model X.prog X.w) X.A (callWith pos f first (backTo pos (starEach args X.env)) (backToKw pos (keywordEach kws X.env))) Qf X.xe s := by
  unfold okArgs at ok
  obtain ⟨ok1, ok2⟩ := Bool.and_eq_true_iff.mp ok
  have hall : (backToKw pos (keywordEach kws X.env)).all (·.1.isSome) = true := by rw [kw_all]; exact ok2
  have hlone : ∀ x, backTo pos (starEach args X.env) ≠ [(true, x)] := fun x z => by
    cases args with
    | nil => cases z
    | cons e es =>
      obtain ⟨o1, o2⟩ := Bool.and_eq_true_iff.mp ok1
      have hs : isStar e = false := by simpa using o1
      rw [star_no hs] at z
      have z' : (false, _) :: backTo pos (starEach es X.env) = [(true, x)] := z
      cases z'
  have hev : wpAny (model X.prog X.w) X.A (evalArgs f true (backTo pos (starEach args X.env)) (backToKw pos (keywordEach kws X.env))) (fun a s₁ => X.K.In s₁.heap ∧ wpAny (model X.prog X.w) X.A (call f (first ++ a.pos) a.kw) Qf X.xe s₁) X.xe s := by
    refine evalArgs_any hlone hall (thn (ha.run pos pins s σ H _ I h) fun us s1 ⟨vs, H1, I1, rv, z⟩ => ?_)
    refine thn (hkw.run pos pins s1 σ H1 _ I1 z) fun ws s2 ⟨zs, H2, I2, rz, q2⟩ => ⟨I2.kIn, ?_⟩
    rw [kw_names]
    exact q us ws s2 vs zs H2 I2 rv rz q2
  cases hst : args.any isStar with
  | false => exact PySem.W.callWith_of (by rw [star_any_eq, kw_any _ ok2, hst]; rfl) (PySem.W.keeps_K hk) hev
  | true =>
    have hk0 : kws = [] := by
      cases args with
      | nil => cases hst
      | cons e es =>
        obtain ⟨o1, o2⟩ := Bool.and_eq_true_iff.mp ok1
        have hs : isStar e = false := by simpa using o1
        rw [List.any_cons, hs, Bool.false_or] at hst
        rw [hst] at o2
        simpa using o2
    subst hk0
    exact PySem.W.ks_call (by rw [star_any_eq]; exact hst) (PySem.W.keeps_K hk) hev
/-- keywords -/
theorem pkI {kws : List Keyword} {t t' : TA} (h : PK X kws t) (i : ∀ σ H Q, t' σ H Q → t σ H Q) : PK X kws t' := ⟨fun pos pins s σ H Q I q => h.run pos pins s σ H Q I (i σ H Q q)⟩
theorem k_nil : PK X [] (tAr X.K ad (evs P cf .nil) Wx) := by
  refine pkI pk_nil ?_
  rintro σ H Q ⟨W, env, h, er, rl, p⟩
  rw [evs] at p
  exact Post.ok (a := []) p rl .nil
theorem k_cons {e : E} {r : Es} {nm : Option Str} {kpos : Pos} {pe : Expr} {kws : List Keyword} (he : PE X pe (tE X.K ad (evE P cf e) Wx)) (hr : PK X kws (tAr X.K ad (evs P cf r) Wx)) : PK X (⟨nm, pe, kpos⟩ :: kws) (tAr X.K ad (evs P cf (.cons e r)) Wx) := by
  refine pkI (pk_cons he hr) ?_
  rintro σ H Q ⟨W, env, h, er, rl, p⟩
  rw [evs] at p
  exact ⟨W, env, h, er, rl, p.seq fun v h1 W1 x H1 l1 rl1 qa p1 => ⟨W1, env, h1, er.mono X.K ad l1, rl1, p1.seq fun vs h2 W2 xs H2 l2 rl2 qs p2 => Post.ok (a := v :: vs) p2 rl2 (.cons (qa.mono X.K ad l2) qs)⟩⟩
/-- from a caller's post to the callee's: the frame is out of sight -/
theorem Post.out {α β : Type} {R : Wd → α → β → Prop} {K : PySem.W.Frag} {W : Wd} {σ : St} {Q : β → Hp → Prop} : ∀ {r : Res α}, Post K ad R Wx W σ Q r → Post K ad R (fun cls d _ H' => Wx cls d σ H') W [] Q r
  | .ok _ _, p => p
  | .exc _ _, p => p
  | .bad, p => p
theorem e_call (gd : Gd P ad X.K X.mg) (F : ∀ f, FnG ad cf n X.prog X.w X.K X.mg X.base f) (hr : RoomG n X.A) (tk : Takes X Wx) {f : String} {es kes : Es} {ks : List String} {pes : List Expr} {kws : List Keyword} {p pos : Pos} (hf : f ∈ P.defs) (hg : Gl X (Str.ofString f)) (hd : (Str.ofString f == ("__debug__" : Str)) = false)
    (ok : okArgs pes kws = true) (hks : kws.filterMap kwName = ks.map Str.ofString) (ha : PA X pes (tAr X.K ad (evs P cf es) Wx)) (hkw : PK X kws (tAr X.K ad (evs P cf kes) Wx)) :
    PE X (.Call (.Name (Str.ofString f) p) pes kws pos) (tE X.K ad (evE P cf (.call f es ks kes)) Wx) := by
  refine ⟨fun pins s σ H Q I ⟨W, env, h, er, rl, p⟩ => ?_⟩
  rw [evE] at p
  obtain ⟨g1, g2⟩ := gd.fn f hf
  refine wpAny_Call_Name_kw (ld_glob I hg g1 ?_ hd)
  refine args_of (N := fun vs zs H2 => spG ad X.K cf f vs ks zs H2 Q fun cls d H' => Wx cls d σ H') ok g2 ha hkw I ?_ fun us ws s2 vs zs H2 I2 rv rz q2 => ?_
  · exact ⟨W, env, h, er, rl, p.seq fun lv h1 W1 vs H1 l1 rl1 qa p1 => ⟨W1, env, h1, er.mono X.K ad l1, rl1, p1.seq fun lz h2 W2 zs H2 l2 rl2 qz p2 => ⟨W2, h2, lv, lz, rl2, qa.mono X.K ad l2, qz, p2.out⟩⟩⟩
  · rw [hks]
    exact run_G (F f) hr tk I2 rv rz q2
end
end Mn
namespace Mn
open PySem PySem.Spec PyProof.Rows L2
section
variable {X : Cx} {ad : String → Addr} {P : Prog} {cf : CF} {Wx : WX} {n : Nat}
theorem e_make {c : String} (hcl : (P.cls.lookup c).isSome = true) (gd : Gd P ad X.K X.mg) (F : ∀ f, FnG ad cf n X.prog X.w X.K X.mg X.base f) (hr : Room (2 * n + 1) X.A) (hgu : X.A.guards = some []) (tk : Takes X Wx) {es kes : Es} {ks : List String} {pes : List Expr} {kws : List Keyword} {p pos : Pos} (hg : Gl X (Str.ofString c)) (hd : (Str.ofString c == ("__debug__" : Str)) = false)
    (ok : okArgs pes kws = true) (hks : kws.filterMap kwName = ks.map Str.ofString) (ha : PA X pes (tAr X.K ad (evs P cf es) Wx)) (hkw : PK X kws (tAr X.K ad (evs P cf kes) Wx)) :
    PE X (.Call (.Name (Str.ofString c) p) pes kws pos) (tE X.K ad (evE P cf (.make c es ks kes)) Wx) := by
  refine ⟨fun pins s σ H Q I ⟨W, env, h, er, rl, p⟩ => ?_⟩
  rw [evE] at p
  cases ec : P.cls.lookup c with
  | none =>
    rw [ec] at hcl
    cases hcl
  | some k =>
    rw [ec] at p
    obtain ⟨g1, g2, g3, g4, g5⟩ := gd.cls c k ec
    refine wpAny_Call_Name_kw (ld_glob I hg g1 ?_ hd)
    refine args_of (N := fun vs zs H2 => ∀ x dx, H2 x = none → H2 dx = none → dx ≠ x → spG ad X.K cf k.init (.ref x :: vs) ks zs (upd (upd H2 dx (.own x)) x (.ins (ad c) dx [])) (fun v H3 => v = .non ∧ Q (.ref x) H3) fun cls d H' => Wx cls d σ H') ok g3.kp ha hkw I ?_ fun us ws s2 vs zs H2 I2 rv rz q2 => ?_
    · refine ⟨W, env, h, er, rl, p.seq fun lv h1 W1 vs H1 l1 rl1 qa p1 => ⟨W1, env, h1, er.mono X.K ad l1, rl1, p1.seq fun lz h2 W2 zs H2 l2 rl2 qz p2 => ?_⟩⟩
      intro x dx hx hdx hne
      dsimp only at p2
      rw [bind_ok (m := newI c) (h := h2) rfl] at p2
      have f1 := rl2.fresh hdx
      have r1 := rl2.junk (o := .own x) f1.1 f1.2.1 f1.2.2
      have hx1 : upd H2 dx (.own x) x = none := by rw [upd_ne (Ne.symm hne)]; exact hx
      have f2 := r1.fresh hx1
      have r2 := r1.junk (o := .ins (ad c) dx []) f2.1 f2.2.1 f2.2.2
      have r3 := r2.toCell (o := .ins c []) upd_same f2.1 f2.2.1 f2.2.2 ⟨dx, [], rfl, rfl, .nil⟩
      have qx : VR X.K ad (W2.cell x) (.ref h2.length) (.ref x) := .ref (by rw [← rl2.len]; exact Wd.cell_at)
      refine ⟨W2.cell x, _, .ref h2.length :: lv, lz, r3, .cons qx ((qa.mono X.K ad l2).mono X.K ad Wd.le_cell), qz.mono X.K ad Wd.le_cell, ?_⟩
      have p3 : Post X.K ad (VR X.K ad) (fun cls d _ H' => Wx cls d σ H') (W2.cell x) [] Q ((do let r ← cf k.init (.ref h2.length :: lv) (ks.zip lz); match r with | .non => pure (.ref h2.length) | _ => M.bad : M LV) (h2 ++ [.ins c []])) := (Post.mono Wd.le_cell p2).out
      refine p3.seq fun v h3 W3 v' H3 l3 rl3 qv p4 => ?_
      cases qv with
      | non => exact ⟨rfl, Post.ok (a := LV.ref h2.length) p4 rl3 (qx.mono X.K ad l3)⟩
      | _ => exact p4.elim
    · rw [hks]
      exact make_G g3 (F k.init) hr hgu tk I2 rv rz q2
theorem meth_eval {o : Expr} {m : Str} {apos pos : Pos} {args : List Expr} {kws : List Keyword} {env : PySem.Env} (hn : nullCall o = false) (hl : (apos.endLine == pos.line) = true) (hs : args.any isStar = false) (hk : kws.all (fun k => (kwName k).isSome) = true) (hm : args.length + kws.length < 29) :
    eval (.Call (.Attribute o m apos) args kws pos) env = (do
      let ov ← eval o env
      standAt apos.atName
      let (f, first) ← holding [ov] (getMethod ov m (plainOf o env))
      callWith pos f first (backTo pos (starEach args env)) (backToKw pos (keywordEach kws env))) := by
  rw [arm_eval_Call, attrBase hn]
  have hf : methodCallForm (args.length + kws.length) (backTo pos (starEach args env)) (backToKw pos (keywordEach kws env)) = true := by
    unfold methodCallForm
    have e1 : (backTo pos (starEach args env)).all (fun x => !x.1) = true := by
      have := star_any_eq (env := env) (pos := pos) args
      rw [hs] at this
      rw [List.all_eq_not_any_not]
      simpa using this
    rw [e1, kw_all, hk]
    simp only [Bool.and_self, Bool.true_and, decide_eq_true_eq]
    split <;> omega
  have e : ∀ ov, methodCall o m apos pos env ov (args.length + kws.length) (backTo pos (starEach args env)) (backToKw pos (keywordEach kws env)) = _ := fun ov => mcall_line (ov := ov) hf hl
  simp only [e]
theorem methM_cases (P : Prog) (v : LV) (m : String) (h : Hh) : methM P v m h = .bad ∨ ∃ c fs k g, view h v = some (.ins c fs) ∧ P.cls.lookup c = some k ∧ k.meths.lookup m = some g ∧ (fs.lookup m).isNone = true ∧ methM P v m h = .ok g h := by
  unfold methM
  split
  · split
    · split
      · split
        · exact .inr ⟨_, _, _, _, by assumption, by assumption, by assumption, by assumption, rfl⟩
        · exact .inl rfl
      · exact .inl rfl
    · exact .inl rfl
  · exact .inl rfl
theorem e_meth (gd : Gd P ad X.K X.mg) (F : ∀ f, FnG ad cf n X.prog X.w X.K X.mg X.base f) (hr : RoomG n X.A) (tk : Takes X Wx) {o : E} {m : String} {es kes : Es} {ks : List String} {po : Expr} {pes : List Expr} {kws : List Keyword} {apos pos : Pos}
    (hn : nullCall po = false) (hl : (apos.endLine == pos.line) = true) (hst : pes.any isStar = false) (hm : pes.length + kws.length < 29) (ok : okArgs pes kws = true) (hks : kws.filterMap kwName = ks.map Str.ofString)
    (ho : PE X po (tE X.K ad (evE P cf o) Wx)) (ha : PA X pes (tAr X.K ad (evs P cf es) Wx)) (hkw : PK X kws (tAr X.K ad (evs P cf kes) Wx)) :
    PE X (.Call (.Attribute po (Str.ofString m) apos) pes kws pos) (tE X.K ad (evE P cf (.meth o m es ks kes)) Wx) := by
  refine ⟨fun pins s σ H Q I ⟨W, env, h, er, rl, p⟩ => ?_⟩
  rw [evE] at p
  have hkn : kws.all (fun k => (kwName k).isSome) = true := (Bool.and_eq_true_iff.mp ok).2
  have z : tE X.K ad (evE P cf o) Wx σ H fun x H1 => ∃ a c dx fr g, x = .ref a ∧ H1 a = some (.ins (ad c) dx fr) ∧ Cls X.K (ad c) ∧ Meth X.K (ad c) (Str.ofString m) (ad g) ∧ fr.lookup (Str.ofString m) = none ∧
      tAr X.K ad (evs P cf es) Wx σ H1 fun vs H2 => tAr X.K ad (evs P cf kes) Wx σ H2 fun zs H3 => spG ad X.K cf g (.ref a :: vs) ks zs H3 Q fun cls d H' => Wx cls d σ H' := by
    refine ⟨W, env, h, er, rl, p.seq fun v h1 W1 x H1 l1 rl1 qa p1 => ?_⟩
    rcases methM_cases P v m h1 with e | ⟨c, fs, k, g, e1, e4, e5, e6, e⟩
    · rw [bind_bad e] at p1
      exact p1.elim
    · rw [bind_ok e] at p1
      obtain ⟨a, dx, fr, ex, ea, q⟩ := ins_at rl1 qa e1
      obtain ⟨g1, g2, g3, g4, g5⟩ := gd.cls c k e4
      refine ⟨a, c, dx, fr, g, ex, ea, g2, g5 m g e5, (q.lookup (f := m)).2 (Option.isNone_iff_eq_none.mp e6), ?_⟩
      subst ex
      exact ⟨W1, env, h1, er.mono X.K ad l1, rl1, p1.seq fun lv h2 W2 vs H2 l2 rl2 qv p2 => ⟨W2, env, h2, er.mono X.K ad (l1.trans l2), rl2, p2.seq fun lz h3 W3 zs H3 l3 rl3 qz p3 =>
        ⟨W3, h3, v :: lv, lz, rl3, .cons (qa.mono X.K ad (l2.trans l3)) (qv.mono X.K ad l3), qz, p3.out⟩⟩⟩
  refine PySem.W.methodCall_KW (pl := plainOf po X.env) (thn (ho.run pins s σ H _ I z) fun u s1 ⟨x, H1, I1, rx, a, c, dx, fr, g, ex, ea, cl, hme, lk, q⟩ => ?_) (meth_eval hn hl hst hkn hm)
  subst ex
  obtain rfl : u = Value.ref a := rx
  refine getmeth_ok I1 ea cl hme lk ?_
  refine args_of (first := [.ref a]) (N := fun vs zs H3 => spG ad X.K cf g (.ref a :: vs) ks zs H3 Q fun cls d H' => Wx cls d σ H') ok hme.kp ha hkw I1 q fun us ws s2 vs zs H2 I2 rv rz q2 => ?_
  rw [hks]
  exact run_G (us := .ref a :: us) (vs := .ref a :: vs) (F g) hr tk I2 (.cons rfl rv) rz q2
end
end Mn

set_option Elab.async false
set_option linter.all false
set_option maxRecDepth 100000
set_option maxHeartbeats 4000000
/-! Mini, part 8: repr(a) == repr(b), append, join; what loops walk. -/
namespace Mn
open PySem PySem.Spec PyProof.Rows L2
/-- what a pure step behind m makes of it -/
theorem Post.map {α β γ δ : Type} {R : Wd → α → β → Prop} {R2 : Wd → γ → δ → Prop} {K : PySem.W.Frag} {ad : String → Addr} {Wx : WX} {W : Wd} {σ : St} {Q1 : β → Hp → Prop} {Q : δ → Hp → Prop} {m : M α} {f : α → γ} {h : Hh}
    (p : Post K ad R Wx W σ Q1 (m h)) (n : ∀ a W' r H', R2 W' (f a) r → ∃ b, R W' a b ∧ (Q1 b H' → Q r H')) : Post K ad R2 Wx W σ Q ((do let x ← m; pure (f x) : M γ) h) := by
  cases e : m h with
  | ok a h1 =>
    rw [e] at p
    rw [bind_ok e]
    intro W' r H' l rl q
    obtain ⟨b, q1, q2⟩ := n a W' r H' q
    exact q2 (p W' b H' l rl q1)
  | exc x h1 =>
    rw [e] at p
    rw [bind_exc e]
    exact p
  | bad =>
    rw [e] at p
    exact p.elim
section
variable {X : Cx} {ad : String → Addr} {P : Prog} {cf : CF} {Wx : WX}
theorem vrs_one {K : PySem.W.Frag} {W : Wd} {v : LV} {rs : List V} (q : VRs K ad W [v] rs) : ∃ r, rs = [r] ∧ VR K ad W v r := by
  cases q with
  | cons a b =>
    cases b
    exact ⟨_, rfl, a⟩
/-- one argument -/
theorem arg1_of {β α : Type} {R : Wd → α → β → Prop} {K : PySem.W.Frag} {W : Wd} {env : Env} {h : Hh} {H : Hp} {σ : St} {Q : β → Hp → Prop} {e : E} {f : LV → M α} (er : ER K ad W env σ) (rl : Rel K ad W h H)
    (p : Post K ad R Wx W σ Q ((do let x ← evE P cf e env; f x) h)) {N : List V → Hp → Prop}
    (n : ∀ W1 h1 H1 a x, W.le W1 → Rel K ad W1 h1 H1 → VR K ad W1 a x → Post K ad R Wx W1 σ Q (f a h1) → N [x] H1) : tAr K ad (evs P cf (.cons e .nil)) Wx σ H N := by
  refine ⟨W, env, h, er, rl, ?_⟩
  have q : Post K ad (VR K ad) Wx W σ (fun x H1 => N [x] H1) (evE P cf e env h) := p.seq fun a h1 W1 x H1 l rl1 qa p1 => n W1 h1 H1 a x l rl1 qa p1
  have z : evs P cf (.cons e .nil) env = (do let x ← evE P cf e env; pure [x] : M (List LV)) := by
    rw [evs, evs]
    simp only [pure_bind']
  rw [z]
  refine q.map fun a W' r H' qr => ?_
  obtain ⟨b, e1, e2⟩ := vrs_one qr
  subst e1
  exact ⟨b, e2, id⟩
/-! ### repr(a) == repr(b) -/
def rRp (K : PySem.W.Frag) : List V → Hp → VK → Prop := fun xs H Q => ∃ x d, xs = [x] ∧ Dp K H x d ∧ SeqAt.shaped d = true ∧ d.showable = true ∧ d.shown.length ≤ sizeLine ∧ Q (.str d.shown) H
def tRp (K : PySem.W.Frag) (ad : String → Addr) (m : Env → M LV) (Wx : WX) : TE := fun σ H Q => ∃ W env h, ER K ad W env σ ∧ Rel K ad W h H ∧ Post K ad (fun _ (s : Str) (r : V) => r = .str s) Wx W σ Q ((do let x ← m env; reprD x : M Str) h)
theorem repr_nm : bootBuiltins ("repr" : Str) = some (.builtin "repr") := by decide +kernel
theorem repr_call (gd : Gd P ad X.K X.mg) (hgu : X.A.guards = some []) (hu : X.A.units + 66 < cLine) (hg : Gl X "repr") {a : E} {pa : Expr} {p pos : Pos} (hs : isStar pa = false) (ha : PE X pa (tE X.K ad (evE P cf a) Wx)) :
    PE X (.Call (.Name "repr" p) [pa] [] pos) (tRp X.K ad (evE P cf a) Wx) := by
  refine peI (pe_callB (cr_repr hgu hu) hg (gd.free "repr" (by decide)) repr_nm (a_cons hs ha a_nil) (by decide) (by decide) (star_no hs) rfl) ?_
  rintro σ H Q ⟨W, env, h, er, rl, p⟩
  refine arg1_of er rl p fun W1 h1 H1 v x l rl1 qa p1 => ?_
  unfold reprD at p1
  cases e1 : dat DEEP h1 v with
  | none => rw [e1] at p1; exact p1.elim
  | some d =>
    rw [e1] at p1
    dsimp only at p1
    by_cases hc : (pd d).showable = true ∧ (pd d).shown.length ≤ line
    · rw [if_pos hc] at p1
      obtain ⟨g1, g2⟩ := dat_shaped rl1 e1 qa
      exact ⟨x, pd d, rfl, g1, g2, hc.1, by rw [← line_eq]; exact hc.2, Post.ok (a := (pd d).shown) p1 rl1 rfl⟩
    · rw [if_neg hc] at p1
      exact p1.elim
theorem rp_two {β α : Type} {R : Wd → α → β → Prop} {K : PySem.W.Frag} {W : Wd} {env : Env} {h : Hh} {H : Hp} {σ : St} {Q : β → Hp → Prop} {ma mb : Env → M LV} {f : Bool → M α} (er : ER K ad W env σ) (rl : Rel K ad W h H)
    (p : Post K ad R Wx W σ Q ((do let x ← ma env; let s ← reprD x; let y ← mb env; let t ← reprD y; f (decide (s = t))) h)) {N : V → Hp → Prop}
    (n : ∀ W2 h2 H2 c, Rel K ad W2 h2 H2 → Post K ad R Wx W2 σ Q (f c h2) → N (.bl c) H2) :
    tRp K ad ma Wx σ H fun x H1 => tRp K ad mb Wx σ H1 fun y H2 => rEq x y H2 N := by
  have p1 : Post K ad R Wx W σ Q ((do let s ← (do let x ← ma env; reprD x : M Str); let t ← (do let y ← mb env; reprD y : M Str); f (decide (s = t))) h) := by
    simpa only [bind_assoc'] using p
  refine ⟨W, env, h, er, rl, p1.seq fun s h1 W1 x H1 l rl1 qa p2 => ?_⟩
  subst qa
  refine ⟨W1, env, h1, er.mono K ad l, rl1, p2.seq fun t h2 W2 y H2 l2 rl2 qb p3 => ?_⟩
  subst qb
  refine ⟨rfl, ?_⟩
  have z : decide (V.str s = V.str t) = decide (s = t) := by
    rw [Bool.eq_iff_iff]
    simp
  rw [z]
  exact n W2 h2 H2 _ rl2 p3
theorem e_repr (gd : Gd P ad X.K X.mg) (hgu : X.A.guards = some []) (hu : X.A.units + 66 < cLine) (hg : Gl X "repr") {a b : E} {pa pb : Expr} {p1 p2 pos1 pos2 pos : Pos} (hsa : isStar pa = false) (hsb : isStar pb = false) (ha : PE X pa (tE X.K ad (evE P cf a) Wx)) (hb : PE X pb (tE X.K ad (evE P cf b) Wx)) :
    PE X (.Compare (.Call (.Name "repr" p1) [pa] [] pos1) [.Eq] [.Call (.Name "repr" p2) [pb] [] pos2] pos) (tE X.K ad (evE P cf (.reprEq a b)) Wx) := by
  refine peI (pe_cmpR op_eq (repr_call gd hgu hu hg hsa ha) (repr_call gd hgu hu hg hsb hb) rfl) ?_
  rintro σ H Q ⟨W, env, h, er, rl, p⟩
  rw [evE] at p
  exact rp_two (f := fun c => pure (LV.bl c)) er rl p fun W2 h2 H2 c rl2 p2 => Post.ok (a := LV.bl c) p2 rl2 (.bl _)
theorem t_repr (gd : Gd P ad X.K X.mg) (hgu : X.A.guards = some []) (hu : X.A.units + 66 < cLine) (hg : Gl X "repr") {a b : E} {pa pb : Expr} {p1 p2 pos1 pos2 pos : Pos} (hsa : isStar pa = false) (hsb : isStar pb = false) (ha : PE X pa (tE X.K ad (evE P cf a) Wx)) (hb : PE X pb (tE X.K ad (evE P cf b) Wx)) :
    PT X (.Compare (.Call (.Name "repr" p1) [pa] [] pos1) [.Eq] [.Call (.Name "repr" p2) [pb] [] pos2] pos) (tT X.K ad (evE P cf (.reprEq a b)) Wx) := by
  refine ptI (pt_cmpR op_eq (repr_call gd hgu hu hg hsa ha) (repr_call gd hgu hu hg hsb hb) rfl) ?_
  rintro σ H Q ⟨W, env, h, er, rl, p⟩
  rw [evE] at p
  simp only [bind_assoc', pure_bind', toB_bl] at p
  exact rp_two (f := fun c => pure c) er rl p fun W2 h2 H2 c rl2 p2 => ⟨c, rfl, Post.ok (a := c) p2 rl2 rfl⟩
/-! ### append, join -/
theorem e_append {o e : E} {po pe : Expr} {apos pos : Pos} (hn : nullCall po = false) (hl : (apos.endLine == pos.line) = true) (hs : isStar pe = false)
    (ho : PE X po (tE X.K ad (evE P cf o) Wx)) (he : PE X pe (tE X.K ad (evE P cf e) Wx)) :
    PE X (.Call (.Attribute po "append" apos) [pe] [] pos) (tE X.K ad (evE P cf (.bmeth o .append (.cons e .nil))) Wx) := by
  refine peI (pe_bm F.plainAttrs_list F.slot_list_append F.type_list_append mt_append ho (a_cons hs he a_nil) (attrBase hn) ?_ hl (star_no hs) rfl) ?_
  · rw [star_no hs]
    rfl
  rintro σ H Q ⟨W, env, h, er, rl, p⟩
  rw [evE] at p
  refine ⟨W, env, h, er, rl, p.seq fun v h1 W1 x H1 l1 rl1 qa p1 => ?_⟩
  have p2 : Post X.K ad (VR X.K ad) Wx W1 σ Q ((do let _ ← chkM .append v; let x ← evE P cf e env; bmethV .append v [x] : M LV) h1) := by
    rw [evs, evs] at p1
    simpa only [bind_assoc', pure_bind'] using p1
  cases e1 : lstOf h1 v with
  | none =>
    have : chkM .append v h1 = .bad := by
      unfold chkM
      rw [e1]
      rfl
    rw [bind_bad this] at p2
    exact p2.elim
  | some xs =>
    have : chkM .append v h1 = .ok () h1 := by
      unfold chkM
      rw [e1]
      rfl
    rw [bind_ok this] at p2
    obtain ⟨a, rs, ex, sq, _⟩ := lst_sq rl1 qa e1
    refine ⟨by rw [ex]; exact .inl ⟨rfl, rs, sq⟩, arg1_of (er.mono X.K ad l1) rl1 p2 fun W2 h2 H2 w y l2 rl2 qb p3 => ?_⟩
    have qa2 := qa.mono X.K ad l2
    unfold bmethV at p3
    cases qa2 with
    | @ref n b hn =>
      dsimp only at p3
      cases e2 : h2[n]? with
      | none => rw [e2] at p3; exact p3.elim
      | some o2 =>
        rw [e2] at p3
        cases o2 with
        | lst ys =>
          dsimp only at p3
          by_cases hlen : ys.length < line
          · rw [if_pos hlen] at p3
            obtain ⟨u, e3, qs, e4, q2⟩ := rl2.cl n b _ hn e2
            subst e4
            refine ⟨b, qs, y, rfl, rfl, e3, by rw [← q2.length, ← line_eq]; exact hlen, ?_⟩
            exact p3 W2 .non _ .refl (rl2.write hn e2 (by intro z; cases z) ⟨qs ++ [y], rfl, q2.append (.cons qb .nil)⟩) .non
          · rw [if_neg hlen] at p3
            exact p3.elim
        | _ => exact p3.elim
    | _ => exact p3.elim
theorem e_clear {o : E} {po : Expr} {apos pos : Pos} (hn : nullCall po = false) (hl : (apos.endLine == pos.line) = true)
    (ho : PE X po (tE X.K ad (evE P cf o) Wx)) : PE X (.Call (.Attribute po "clear" apos) [] [] pos) (tE X.K ad (evE P cf (.bm0 o .clear)) Wx) := by
  refine peI (pe_bm0 F.plainAttrs_list F.slot_list_clear F.type_list_clear mt_clear ho (attrBase hn) hl) ?_
  rintro σ H Q ⟨W, env, h, er, rl, p⟩
  rw [evE] at p
  refine ⟨W, env, h, er, rl, p.seq fun v h1 W1 x H1 l1 rl1 qa p1 => ?_⟩
  unfold bm0V at p1
  cases qa with
  | @ref n b hn =>
    dsimp only at p1
    cases e2 : h1[n]? with
    | none => rw [e2] at p1; exact p1.elim
    | some o2 =>
      rw [e2] at p1
      cases o2 with
      | lst ys =>
        dsimp only at p1
        obtain ⟨u, e3, qs, e4, q2⟩ := rl1.cl n b _ hn e2
        subst e4
        obtain ⟨a, rs, ex, sq, _⟩ := lst_sq rl1 (VR.ref hn) (show lstOf h1 (.ref n) = some ys by unfold lstOf view; dsimp only; rw [e2])
        refine ⟨by rw [ex]; exact .inl ⟨rfl, rs, sq⟩, b, qs, rfl, rfl, e3, ?_⟩
        exact p1 W1 .non _ .refl (rl1.write hn e2 (by intro z; cases z) ⟨[], rfl, .nil⟩) .non
      | _ => exact p1.elim
  | _ => exact p1.elim
theorem join_len {s : List Nat} {ts : List (List Nat)} : ((ts.map SX.S).map (·.length)).sum + (ts.map SX.S).length * (SX.S s).length = (ts.map (·.length)).sum + ts.length * s.length := by
  rw [List.map_map, List.length_map]
  have e : ((fun x : Str => x.length) ∘ SX.S) = List.length := by
    funext l
    show (l.toArray).size = l.length
    simp
  rw [e]
  show _ + _ * (s.toArray).size = _
  simp
theorem strs_vr {K : PySem.W.Frag} {W : Wd} : ∀ {xs : List LV} {rs : List V} {ts : List (List Nat)}, VRs K ad W xs rs → strsL xs = some ts → rs = (ts.map SX.S).map V.str ∧ ∀ t ∈ ts, strGood t
  | [], _, ts, q, e => by
    cases q
    cases e
    exact ⟨rfl, fun t h => by cases h⟩
  | v :: vs, _, ts, q, e => by
    cases q with
    | cons a b =>
      cases a with
      | str s g =>
        unfold strsL at e
        cases e1 : strsL vs with
        | none => rw [e1] at e; cases e
        | some us =>
          rw [e1] at e
          cases e
          obtain ⟨h1, h2⟩ := strs_vr b e1
          refine ⟨by rw [h1]; rfl, fun t h => ?_⟩
          rcases List.mem_cons.mp h with z | z
          · rw [z]; exact g
          · exact h2 t z
      | _ => cases e
theorem joinL_eq (s : List Nat) : ∀ ts : List (List Nat), joinL s ts = TL.joinL s ts
  | [] => rfl
  | [_] => rfl
  | a :: b :: r => by
    show a ++ (s ++ joinL s (b :: r)) = a ++ (s ++ TL.joinL s (b :: r))
    rw [joinL_eq s (b :: r)]
theorem joinL_good {s : List Nat} (hs : strGood s) : ∀ {ts : List (List Nat)}, (∀ t ∈ ts, strGood t) → strGood (joinL s ts)
  | [], _ => fun c h => by cases h
  | [a], h => h a (by simp)
  | a :: b :: r, h => fun c hc => by
    have hc' : c ∈ a ++ (s ++ joinL s (b :: r)) := hc
    rcases List.mem_append.mp hc' with z | z
    · exact h a (by simp) c z
    · rcases List.mem_append.mp z with z | z
      · exact hs c z
      · exact joinL_good hs (fun t ht => h t (List.mem_cons_of_mem _ ht)) c z
theorem arg1_e {β α : Type} {R : Wd → α → β → Prop} {K : PySem.W.Frag} {W : Wd} {env : Env} {h : Hh} {H : Hp} {σ : St} {Q : β → Hp → Prop} {m : Env → M LV} {f : LV → M α} (er : ER K ad W env σ) (rl : Rel K ad W h H)
    (p : Post K ad R Wx W σ Q ((do let x ← m env; f x) h)) {N : V → Hp → Prop}
    (n : ∀ W1 h1 H1 a x, W.le W1 → Rel K ad W1 h1 H1 → VR K ad W1 a x → Post K ad R Wx W1 σ Q (f a h1) → N x H1) : tE K ad m Wx σ H N :=
  ⟨W, env, h, er, rl, p.seq fun a h1 W1 x H1 l rl1 qa p1 => n W1 h1 H1 a x l rl1 qa p1⟩
theorem e_join {o e : E} {po pe : Expr} {apos pos : Pos} (hn : nullCall po = false) (hl : (apos.endLine == pos.line) = true) (hs : isStar pe = false)
    (ho : PE X po (tE X.K ad (evE P cf o) Wx)) (he : PE X pe (tE X.K ad (evE P cf e) Wx)) :
    PE X (.Call (.Attribute po "join" apos) [pe] [] pos) (tE X.K ad (evE P cf (.bmeth o .join (.cons e .nil))) Wx) := by
  refine peI (pe_join ho he (star_no hs) (attrBase hn) hl) ?_
  rintro σ H Q ⟨W, env, h, er, rl, p⟩
  rw [evE] at p
  refine arg1_e er rl p fun W1 h1 H1 v x l1 rl1 qa p1 => ?_
  have p2 : Post X.K ad (VR X.K ad) Wx W1 σ Q ((do let _ ← chkM .join v; let x ← evE P cf e env; bmethV .join v [x] : M LV) h1) := by
    rw [evs, evs] at p1
    simpa only [bind_assoc', pure_bind'] using p1
  cases qa with
  | str s g =>
    rw [bind_ok (m := chkM .join (.str s)) (a := ()) (h' := h1) rfl] at p2
    refine ⟨⟨_, rfl⟩, arg1_e (er.mono X.K ad l1) rl1 p2 fun W2 h2 H2 w y l2 rl2 qb p3 => ?_⟩
    unfold bmethV at p3
    dsimp only at p3
    cases e1 : seqOf h2 w with
    | none => rw [e1] at p3; exact p3.elim
    | some xs =>
      rw [e1] at p3
      dsimp only at p3
      cases e2 : strsL xs with
      | none => rw [e2] at p3; exact p3.elim
      | some ts =>
        rw [e2] at p3
        dsimp only at p3
        by_cases hz : (ts.map (·.length)).sum + ts.length * s.length ≤ line
        · rw [if_pos hz] at p3
          obtain ⟨b, rs, ey, sq, q2⟩ := seq_sq rl2 qb e1
          obtain ⟨g1, g2⟩ := strs_vr q2 e2
          subst g1
          refine ⟨SX.S s, b, ts.map SX.S, rfl, by rw [ey], sq, by rw [join_len]; exact hz, ?_⟩
          have ej : Txt.join (SX.S s) (ts.map SX.S) = ⟨(joinL s ts).toArray⟩ := by
            rw [joinL_eq]
            exact SX.join_S s ts
          rw [ej]
          exact Post.ok (a := LV.str (joinL s ts)) p3 rl2 (.str _ (joinL_good g g2))
        · rw [if_neg hz] at p3
          exact p3.elim
  | _ =>
    rw [bind_bad rfl] at p2
    exact p2.elim
/-! ### walks -/
structure Wd.sub (W W' : Wd) : Prop where
  fz : ∀ (a : Addr) (o : HO), W.F a = some o → W'.F a = some o
  io : ∀ (n : Nat) (a : Addr), W.io[n]? = some a → W'.io[n]? = some a
theorem Wd.le.sub {W W' : Wd} (l : W.le W') : W.sub W' := ⟨l.fz, l.io⟩
theorem Wd.sub.trans {A B C : Wd} (x : A.sub B) (y : B.sub C) : A.sub C := ⟨fun a o h => y.fz a o (x.fz a o h), fun n a h => y.io n a (x.io n a h)⟩
theorem Wd.sub.le {W W' : Wd} (s : W.sub W') : W.le (W'.pub W.pr) := ⟨s.fz, s.io, rfl⟩
theorem VR.sub {K : PySem.W.Frag} {W W' : Wd} (s : W.sub W') {x : LV} {r : V} (q : VR K ad W x r) : VR K ad W' x r := VR.same K ad (W := W'.pub W.pr) (W' := W') rfl rfl (q.mono K ad s.le)
theorem VRs.sub {K : PySem.W.Frag} {W W' : Wd} (s : W.sub W') {x : List LV} {r : List V} (q : VRs K ad W x r) : VRs K ad W' x r := VRs.same K ad (W := W'.pub W.pr) (W' := W') rfl rfl (q.mono K ad s.le)
/-- the iterator J gives w's items, so long as they stand still -/
def WR (K : PySem.W.Frag) (ad : String → Addr) (W : Wd) (w : Wk) (J : It) : Prop := ∀ (i : Nat) (W' : Wd) (h' : Hh) (H' : Hp), W.sub W' → Rel K ad W' h' H' → w.2 h' = true →
  (∀ x, w.1[i]? = some x → J.go i H' ∧ ∀ r H2, J.yld i H' r H2 → ∃ W2, W'.le W2 ∧ Rel K ad W2 h' H2 ∧ VR K ad W2 x r) ∧ (w.1.length ≤ i → J.stop i H')
theorem WR.sub {K : PySem.W.Frag} {W W' : Wd} (s : W.sub W') {w : Wk} {J : It} (q : WR K ad W w J) : WR K ad W' w J := fun i W2 h2 H2 l rl e => q i W2 h2 H2 (s.trans l) rl e
theorem still_lst {h h' : Hh} {v : LV} {xs : List LV} (e : lstOf h v = some xs) (e2 : still v xs h' = true) : lstOf h' v = some xs := by
  cases v with
  | ref n =>
    unfold still at e2
    dsimp only at e2
    unfold lstOf view
    dsimp only
    cases e3 : h'[n]? with
    | none => rw [e3] at e2; cases e2
    | some o =>
      rw [e3] at e2
      cases o with
      | lst ys => exact congrArg some (LV.sames_eq _ _ e2)
      | _ => cases e2
  | _ => exact e
theorem wr_list {K : PySem.W.Frag} {W : Wd} {h : Hh} {v : LV} {a : Addr} {xs : List LV} (q : VR K ad W v (.ref a)) (e : lstOf h v = some xs) : WR K ad W (xs, still v xs) (Itl K a) := by
  intro i W' h' H' s rl st
  obtain ⟨b, rs, eb, sq, qs⟩ := lst_sq rl (q.sub s) (still_lst e st)
  cases eb
  refine ⟨fun x hx => ?_, fun hl => ⟨rs, sq, by rw [← qs.length]; exact hl⟩⟩
  obtain ⟨r, e2, qr⟩ := qs.get hx
  refine ⟨⟨rs, r, sq, e2⟩, fun r' H2 hy => ?_⟩
  obtain ⟨ey, hy⟩ := hy
  subst ey
  have := hy rs sq
  rw [e2] at this
  cases this
  exact ⟨W', .refl, rl, qr⟩
theorem wr_tup {K : PySem.W.Frag} {W : Wd} {a : Addr} {xs : List LV} (q : VR K ad W (.tup xs) (.ref a)) : WR K ad W (xs, fun _ => true) (Itt K a) := by
  intro i W' h' H' s rl st
  cases q.sub s with
  | @tup _ _ rs f qs =>
    have sq : SqT K H' a rs := .inl (rl.fz _ _ f)
    refine ⟨fun x hx => ?_, fun hl => ⟨rs, sq, by rw [← qs.length]; exact hl⟩⟩
    obtain ⟨r, e2, qr⟩ := qs.get hx
    refine ⟨⟨rs, r, sq, e2⟩, fun r' H2 hy => ?_⟩
    obtain ⟨ey, hy⟩ := hy
    subst ey
    have := hy rs sq
    rw [e2] at this
    cases this
    exact ⟨W', .refl, rl, qr⟩
theorem wr_scr {K : PySem.W.Frag} {W : Wd} {a : Addr} {ns : List Int} (q : VR K ad W (.scr ns) (.ref a)) : WR K ad W (ns.map .int, fun _ => true) (Itl K a) := by
  intro i W' h' H' s rl st
  cases q.sub s with
  | scr _ f =>
    have sq : SqL K H' a (ns.map V.int) := f.sq rl
    have qs : VRs K ad W' (ns.map LV.int) (ns.map V.int) := VRs.ints ns
    refine ⟨fun x hx => ?_, fun hl => ⟨_, sq, by rw [← qs.length]; exact hl⟩⟩
    obtain ⟨r, e2, qr⟩ := qs.get hx
    refine ⟨⟨_, r, sq, e2⟩, fun r' H2 hy => ?_⟩
    obtain ⟨ey, hy⟩ := hy
    subst ey
    have := hy _ sq
    rw [e2] at this
    cases this
    exact ⟨W', .refl, rl, qr⟩
theorem wr_str {K : PySem.W.Frag} {W : Wd} {s : List Nat} (g : strGood s) : WR K ad W (s.map fun c => .str [c], fun _ => true) (Its ⟨s.toArray⟩) := by
  intro i W' h' H' l rl st
  refine ⟨fun x hx => ?_, fun hl => ?_⟩
  · have hx' : (s.map fun c => LV.str [c])[i]? = some x := hx
    rw [List.getElem?_map] at hx'
    cases e : s[i]? with
    | none => rw [e] at hx'; cases hx'
    | some c =>
      rw [e] at hx'
      cases hx'
      have hi := (List.getElem?_eq_some_iff.mp e).1
      refine ⟨by show i < s.toArray.size; simpa using hi, fun r H2 hy => ?_⟩
      obtain ⟨ey, c', ec, er⟩ := hy
      subst ey
      subst er
      have : s[i]? = some c' := by simpa using ec
      rw [e] at this
      cases this
      exact ⟨W', .refl, rl, .str [c] fun d hd => by
        have : d = c := by simpa using hd
        subst this
        exact g d (List.mem_of_getElem? e)⟩
  · have hl' : (s.map fun c => LV.str [c]).length ≤ i := hl
    show s.toArray.size ≤ i
    simpa using hl'
theorem wr_range {K : PySem.W.Frag} {W : Wd} {a b : Int} : WR K ad W (rangeL a b, fun _ => true) (Itr a (b - a).toNat) := by
  intro i W' h' H' l rl st
  refine ⟨fun x hx => ?_, fun hl => ?_⟩
  · have hx' : ((List.range (b - a).toNat).map fun (k : Nat) => LV.int (a + k))[i]? = some x := hx
    rw [List.getElem?_map] at hx'
    cases e : (List.range (b - a).toNat)[i]? with
    | none => rw [e] at hx'; cases hx'
    | some c =>
      rw [e] at hx'
      cases hx'
      have h1 := (List.getElem?_eq_some_iff.mp e)
      obtain ⟨h2, h3⟩ := h1
      have h4 : i < (b - a).toNat := by simpa using h2
      have h5 : i = c := by simpa using h3
      subst h5
      refine ⟨h4, fun r H2 hy => ?_⟩
      obtain ⟨ey, er⟩ := hy
      subst ey
      subst er
      exact ⟨W', .refl, rl, .int _⟩
  · have hl' : ((List.range (b - a).toNat).map fun (k : Nat) => LV.int (a + k)).length ≤ i := hl
    show (b - a).toNat ≤ i
    simpa using hl'
theorem enum_get : ∀ (xs : List LV) (n i : Nat), (enumL n xs)[i]? = (xs[i]?).map fun x => LV.tup [.int (((n + i : Nat)) : Int), x]
  | [], n, i => by simp [enumL]
  | x :: r, n, 0 => by simp [enumL]
  | x :: r, n, i + 1 => by
    show (enumL (n + 1) r)[i]? = _
    rw [enum_get r (n + 1) i]
    have : n + 1 + i = n + (i + 1) := by omega
    rw [this]
    simp
theorem enum_len : ∀ (xs : List LV) (n : Nat), (enumL n xs).length = xs.length
  | [], _ => rfl
  | _ :: r, n => congrArg Nat.succ (enum_len r (n + 1))
theorem wr_enum {K : PySem.W.Frag} {W : Wd} {h : Hh} {v : LV} {a : Addr} {xs : List LV} (q : VR K ad W v (.ref a)) (e : lstOf h v = some xs) : WR K ad W (enumL 0 xs, still v xs) (Ite K a) := by
  intro i W' h' H' s rl st
  obtain ⟨b, rs, eb, sq, qs⟩ := lst_sq rl (q.sub s) (still_lst e st)
  cases eb
  refine ⟨fun x hx => ?_, fun hl => ⟨rs, sq, by rw [← qs.length]; rw [show (enumL 0 xs, still v xs).1 = enumL 0 xs from rfl, enum_len] at hl; exact hl⟩⟩
  have hx' : (enumL 0 xs)[i]? = some x := hx
  rw [enum_get] at hx'
  cases e1 : xs[i]? with
  | none => rw [e1] at hx'; cases hx'
  | some y =>
    rw [e1] at hx'
    cases hx'
    obtain ⟨r, e2, qr⟩ := qs.get e1
    refine ⟨⟨rs, r, sq, e2⟩, fun r' H2 hy => ?_⟩
    obtain ⟨T, z, er, hT, ey, hy⟩ := hy
    subst ey
    subst er
    have := hy rs sq
    rw [e2] at this
    cases this
    have f := rl.fresh hT
    refine ⟨W'.frz T (.tup [.int (i : Nat), r]), Wd.le_frz f.1, rl.newF hT, .tup Wd.frz_at (.cons ?_ (.cons (qr.mono K ad (Wd.le_frz f.1)) .nil))⟩
    rw [Nat.zero_add]
    exact .int _
theorem zip_get : ∀ (xs ys : List LV) (i : Nat) (z : LV), (zipL xs ys)[i]? = some z → ∃ x y, xs[i]? = some x ∧ ys[i]? = some y ∧ z = .tup [x, y]
  | [], _, i, z, h => by simp [zipL] at h
  | _ :: _, [], i, z, h => by simp [zipL] at h
  | x :: r, y :: q, 0, z, h => by
    simp [zipL] at h
    exact ⟨x, y, rfl, rfl, h.symm⟩
  | x :: r, y :: q, i + 1, z, h => by
    obtain ⟨a, b, h1, h2, h3⟩ := zip_get r q i z (by simpa [zipL] using h)
    exact ⟨a, b, by simpa using h1, by simpa using h2, h3⟩
theorem zip_len : ∀ (xs ys : List LV) (i : Nat), (zipL xs ys).length ≤ i → xs.length ≤ i ∨ ys.length ≤ i
  | [], _, i, h => .inl (Nat.zero_le _)
  | _ :: _, [], i, h => .inr (Nat.zero_le _)
  | x :: r, y :: q, i, h => by
    have h' : (zipL r q).length + 1 ≤ i := h
    cases i with
    | zero => omega
    | succ i =>
      rcases zip_len r q i (by omega) with z | z
      · exact .inl (by simpa using z)
      · exact .inr (by simpa using z)
theorem wr_zip {K : PySem.W.Frag} {W : Wd} {h : Hh} {v w : LV} {a b : Addr} {xs ys : List LV} (q : VR K ad W v (.ref a)) (e : lstOf h v = some xs) (q' : VR K ad W w (.ref b)) (e' : lstOf h w = some ys) :
    WR K ad W (zipL xs ys, fun h => still v xs h && still w ys h) (Itz K a b) := by
  intro i W' h' H' s rl st
  obtain ⟨s1, s2⟩ := Bool.and_eq_true_iff.mp (show (still v xs h' && still w ys h') = true from st)
  obtain ⟨b1, rs, eb, sq, qs⟩ := lst_sq rl (q.sub s) (still_lst e s1)
  cases eb
  obtain ⟨b2, rs', eb', sq', qs'⟩ := lst_sq rl (q'.sub s) (still_lst e' s2)
  cases eb'
  refine ⟨fun x hx => ?_, fun hl => ⟨rs, rs', sq, sq', by rw [← qs.length, ← qs'.length]; exact zip_len xs ys i hl⟩⟩
  obtain ⟨y, y', e1, e2, ex⟩ := zip_get xs ys i x hx
  subst ex
  obtain ⟨r, f1, qr⟩ := qs.get e1
  obtain ⟨r', f2, qr'⟩ := qs'.get e2
  refine ⟨⟨rs, rs', r, r', sq, sq', f1, f2⟩, fun u H2 hy => ?_⟩
  obtain ⟨T, z, z', er, hT, ey, hy, hy'⟩ := hy
  subst ey
  subst er
  have h1 := hy rs sq
  rw [f1] at h1
  cases h1
  have h2 := hy' rs' sq'
  rw [f2] at h2
  cases h2
  have f := rl.fresh hT
  exact ⟨W'.frz T (.tup [r, r']), Wd.le_frz f.1, rl.newF hT, .tup Wd.frz_at (.cons (qr.mono K ad (Wd.le_frz f.1)) (.cons (qr'.mono K ad (Wd.le_frz f.1)) .nil))⟩
/-- what is walked, as a reading -/
def tI (K : PySem.W.Frag) (ad : String → Addr) (m : Env → M Wk) (Wx : WX) : TI := fun σ H R => ∃ W env h, ER K ad W env σ ∧ Rel K ad W h H ∧ Post K ad (WR K ad) Wx W σ R (m env h)
theorem piI {tg e : Expr} {t t' : TI} (h : PI X tg e t) (i : ∀ σ H R, t' σ H R → t σ H R) : PI X tg e t' := ⟨fun pins s σ H R I q => h.run pins s σ H R I (i σ H R q)⟩
def iSq (K : PySem.W.Frag) (tl : TE) : TI := fun σ H R => tl σ H fun x H1 => (∃ a xs, x = .ref a ∧ SqL K H1 a xs ∧ R (Itl K a) H1) ∨ (∃ a xs, x = .ref a ∧ SqT K H1 a xs ∧ R (Itt K a) H1) ∨ ∃ s, x = .str s ∧ R (Its s) H1
theorem pi_sq {tg e : Expr} {tl : TE} (he : PE X e tl) : PI X tg e (iSq X.K tl) := by
  constructor
  intro pins s σ H R I0 h0
  refine thn (he.run pins s σ H _ I0 h0) fun v s1 hh => ?_
  obtain ⟨x, H1, I, r, z⟩ := hh
  rcases z with ⟨a, xs, ex, sq, q⟩ | ⟨a, xs, ex, sq, q⟩ | ⟨t, ex, q⟩
  · subst ex
    cases r
    obtain ⟨its, _, p, _⟩ := I.list sq
    exact wpAny_pyIter_list p.isList (pi_one (tk := s1.toks) I _ (turn_list a _) ⟨_, Heap.get?_push_size _ rfl, rfl, rfl⟩ q)
  · subst ex
    cases r
    obtain ⟨its, _, p, _⟩ := I.tuple sq
    exact wpAny_pyIter_tuple (show s1.heap.IsTuple a its.toArray from p) (pi_one (tk := s1.toks) I _ (turn_tuple a _) ⟨_, Heap.get?_push_size _ rfl, rfl, rfl⟩ q)
  · subst ex
    obtain ⟨k, rfl⟩ := r
    by_cases hk : t.cps.all (· < 128) = true
    · exact wpAny_pyIter_ascii hk (pi_one (tk := s1.toks) I _ (turn_str _ t k "str_ascii_iterator" (.inl rfl)) ⟨_, Heap.get?_push_size _ rfl, rfl, rfl⟩ q)
    · exact wpAny_pyIter_wide (by simpa using hk) (pi_one (tk := s1.toks) I _ (turn_str _ t k "str_iterator" (.inr rfl)) ⟨_, Heap.get?_push_size _ rfl, rfl, rfl⟩ q)
theorem walk_cases {K : PySem.W.Frag} {W : Wd} {h : Hh} {H : Hp} {v : LV} {u : V} (rl : Rel K ad W h H) (q : VR K ad W v u) : walkV v h = .bad ∨ ∃ w, walkV v h = .ok w h ∧
    ((∃ a rs, u = .ref a ∧ SqL K H a rs ∧ WR K ad W w (Itl K a)) ∨ (∃ a rs, u = .ref a ∧ SqT K H a rs ∧ WR K ad W w (Itt K a)) ∨ ∃ s, u = .str s ∧ WR K ad W w (Its s)) := by
  have lst : ∀ {v' : LV} {a : Addr}, VR K ad W v' (.ref a) → (∀ xs, seqOf h v' = some xs → lstOf h v' = some xs) → (∀ w, walkV v' h = .ok w h ↔ walkV v' h = .ok w h) → (walkV v' h = match seqOf h v' with
      | some xs => .ok (xs, still v' xs) h
      | none => .bad) → walkV v' h = .bad ∨ ∃ w, walkV v' h = .ok w h ∧ ((∃ b rs, V.ref a = .ref b ∧ SqL K H b rs ∧ WR K ad W w (Itl K b)) ∨ (∃ b rs, V.ref a = .ref b ∧ SqT K H b rs ∧ WR K ad W w (Itt K b)) ∨ ∃ s, V.ref a = .str s ∧ WR K ad W w (Its s)) := by
    intro v' a qv hs _ hw
    cases e : seqOf h v' with
    | none =>
      rw [e] at hw
      exact .inl hw
    | some xs =>
      rw [e] at hw
      obtain ⟨b, rs, eb, sq, qs⟩ := lst_sq rl qv (hs xs e)
      refine .inr ⟨_, hw, .inl ⟨b, rs, eb, sq, ?_⟩⟩
      cases eb
      exact wr_list qv (hs xs e)
  cases q with
  | non => exact .inl rfl
  | bl b => exact .inl rfl
  | int i => exact .inl rfl
  | str s g => exact .inr ⟨_, rfl, .inr (.inr ⟨_, rfl, wr_str g⟩)⟩
  | @tup a xs rs f q2 => exact .inr ⟨_, rfl, .inr (.inl ⟨a, rs, rfl, .inl (rl.fz _ _ f), wr_tup (.tup f q2)⟩)⟩
  | @scr a ns f => exact .inr ⟨_, rfl, .inl ⟨a, _, rfl, f.sq rl, wr_scr (.scr ns f)⟩⟩
  | lst f q2 => exact lst (.lst f q2) (fun xs e => e) (fun _ => Iff.rfl) rfl
  | obj f g q2 => exact lst (.obj f g q2) (fun xs e => e) (fun _ => Iff.rfl) rfl
  | ref hn => exact lst (.ref hn) (fun xs e => e) (fun _ => Iff.rfl) rfl
theorem i_seq {tg : Expr} {e : E} {pe : Expr} (he : PE X pe (tE X.K ad (evE P cf e) Wx)) : PI X tg pe (tI X.K ad (evI P cf (.seq e)) Wx) := by
  refine piI (pi_sq he) ?_
  rintro σ H R ⟨W, env, h, er, rl, p⟩
  rw [evI] at p
  refine arg1_e er rl p fun W1 h1 H1 v x l1 rl1 qa p1 => ?_
  rcases walk_cases rl1 qa with e1 | ⟨w, e1, z⟩
  · rw [e1] at p1
    exact p1.elim
  · rw [e1] at p1
    rcases z with ⟨a, rs, ex, sq, q⟩ | ⟨a, rs, ex, sq, q⟩ | ⟨s, ex, q⟩
    · exact .inl ⟨a, rs, ex, sq, Post.ok (a := w) p1 rl1 q⟩
    · exact .inr (.inl ⟨a, rs, ex, sq, Post.ok (a := w) p1 rl1 q⟩)
    · exact .inr (.inr ⟨s, ex, Post.ok (a := w) p1 rl1 q⟩)
theorem i_range1 (gd : Gd P ad X.K X.mg) {tg : Expr} {a : E} {pa : Expr} {p pos : Pos} (hg : Gl X "range") (hs : isStar pa = false) (ha : PE X pa (tE X.K ad (evE P cf a) Wx)) : PI X tg (.Call (.Name "range" p) [pa] [] pos) (tI X.K ad (evI P cf (.range1 a)) Wx) := by
  refine piI (pi_range1 hg (gd.free "range" (by decide)) (a_cons hs ha a_nil) (star_no hs)) ?_
  rintro σ H R ⟨W, env, h, er, rl, p⟩
  rw [evI] at p
  refine arg1_of er rl p fun W1 h1 H1 v x l1 rl1 qa p1 => ?_
  cases qa with
  | int j =>
    dsimp only at p1
    cases hb : rangeOk 0 j with
    | false =>
      rw [bind_bad (by unfold M.chk; rw [hb]; rfl)] at p1
      exact p1.elim
    | true =>
      rw [bind_ok (a := ()) (h' := h1) (by unfold M.chk; rw [hb]; rfl)] at p1
      simp only [rangeOk, Bool.and_eq_true, decide_eq_true_eq] at hb
      have z := Post.ok (a := (rangeL 0 j, fun _ => true)) p1 rl1 (wr_range (a := 0) (b := j))
      rw [Int.sub_zero] at z
      exact ⟨j, rfl, by omega, by omega, z⟩
  | _ => exact p1.elim
theorem two_args {β α : Type} {R : Wd → α → β → Prop} {K : PySem.W.Frag} {W : Wd} {env : Env} {h : Hh} {H : Hp} {σ : St} {Q : β → Hp → Prop} {a b : E} {f : LV → LV → M α} (er : ER K ad W env σ) (rl : Rel K ad W h H)
    (p : Post K ad R Wx W σ Q ((do let x ← evE P cf a env; let y ← evE P cf b env; f x y) h)) {N : List V → Hp → Prop}
    (n : ∀ W2 h2 H2 v w x y, Rel K ad W2 h2 H2 → VR K ad W2 v x → VR K ad W2 w y → Post K ad R Wx W2 σ Q (f v w h2) → N [x, y] H2) : tAr K ad (evs P cf (.cons a (.cons b .nil))) Wx σ H N := by
  refine ⟨W, env, h, er, rl, ?_⟩
  have z : evs P cf (.cons a (.cons b .nil)) env = (do let r ← (do let x ← evE P cf a env; let y ← evE P cf b env; pure (x, y) : M (LV × LV)); pure [r.1, r.2] : M (List LV)) := by
    rw [evs, evs, evs]
    simp only [bind_assoc', pure_bind']
  rw [z]
  have p' : Post K ad R Wx W σ Q ((do let r ← (do let x ← evE P cf a env; let y ← evE P cf b env; pure (x, y) : M (LV × LV)); f r.1 r.2) h) := by
    simpa only [bind_assoc', pure_bind'] using p
  have q : Post K ad (fun W (r : LV × LV) (u : V × V) => VR K ad W r.1 u.1 ∧ VR K ad W r.2 u.2) Wx W σ (fun u H2 => N [u.1, u.2] H2) ((do let x ← evE P cf a env; let y ← evE P cf b env; pure (x, y) : M (LV × LV)) h) :=
    p'.seq fun r h1 W1 u H1 l rl1 qa p1 => n W1 h1 H1 r.1 r.2 u.1 u.2 rl1 qa.1 qa.2 p1
  refine q.map fun r W' us H' qr => ?_
  cases qr with
  | cons q1 q2 =>
    obtain ⟨y, e1, e2⟩ := vrs_one q2
    subst e1
    exact ⟨(_, y), ⟨q1, e2⟩, id⟩
theorem i_range2 (gd : Gd P ad X.K X.mg) {tg : Expr} {a b : E} {pa pb : Expr} {p pos : Pos} (hg : Gl X "range") (hs : isStar pa = false) (hs' : isStar pb = false) (ha : PE X pa (tE X.K ad (evE P cf a) Wx)) (hb : PE X pb (tE X.K ad (evE P cf b) Wx)) :
    PI X tg (.Call (.Name "range" p) [pa, pb] [] pos) (tI X.K ad (evI P cf (.range2 a b)) Wx) := by
  refine piI (pi_range2 hg (gd.free "range" (by decide)) (a_cons hs ha (a_cons hs' hb a_nil)) (by rw [star_no hs, star_no hs']; rfl) (star_no hs')) ?_
  rintro σ H R ⟨W, env, h, er, rl, p⟩
  rw [evI] at p
  refine two_args er rl p fun W2 h2 H2 v w x y rl2 qa qb p2 => ?_
  cases qa with
  | int i =>
    cases qb with
    | int j =>
      dsimp only at p2
      cases hr : rangeOk i j with
      | false =>
        rw [bind_bad (by unfold M.chk; rw [hr]; rfl)] at p2
        exact p2.elim
      | true =>
        rw [bind_ok (a := ()) (h' := h2) (by unfold M.chk; rw [hr]; rfl)] at p2
        simp only [rangeOk, Bool.and_eq_true, decide_eq_true_eq] at hr
        exact ⟨i, j, rfl, ⟨by omega, by omega, by omega, by omega⟩, Post.ok (a := (rangeL i j, fun _ => true)) p2 rl2 wr_range⟩
    | _ => exact p2.elim
  | _ => exact p2.elim
theorem i_enum (gd : Gd P ad X.K X.mg) {e : E} {pe : Expr} {p pos tpos : Pos} {elts : List Expr} {kk : Nat} (hg : Gl X "enumerate") (hs : isStar pe = false) (he : PE X pe (tE X.K ad (evE P cf e) Wx)) :
    PI X (.Tuple elts kk tpos) (.Call (.Name "enumerate" p) [pe] [] pos) (tI X.K ad (evI P cf (.enum e)) Wx) := by
  refine piI (pi_enum hg (gd.free "enumerate" (by decide)) (a_cons hs he a_nil) (star_no hs)) ?_
  rintro σ H R ⟨W, env, h, er, rl, p⟩
  rw [evI] at p
  refine arg1_of er rl p fun W1 h1 H1 v x l1 rl1 qa p1 => ?_
  cases e1 : lstOf h1 v with
  | none =>
    rw [bind_bad (lstM_none e1)] at p1
    exact p1.elim
  | some ys =>
    rw [bind_ok (lstM_some e1)] at p1
    obtain ⟨a, rs, ex, sq, qs⟩ := lst_sq rl1 qa e1
    subst ex
    exact ⟨a, rs, rfl, sq, Post.ok (a := (enumL 0 ys, still v ys)) p1 rl1 (wr_enum qa e1)⟩
theorem i_zip (gd : Gd P ad X.K X.mg) {a b : E} {pa pb : Expr} {p pos tpos : Pos} {elts : List Expr} {kk : Nat} (hg : Gl X "zip") (hs : isStar pa = false) (hs' : isStar pb = false) (ha : PE X pa (tE X.K ad (evE P cf a) Wx)) (hb : PE X pb (tE X.K ad (evE P cf b) Wx)) :
    PI X (.Tuple elts kk tpos) (.Call (.Name "zip" p) [pa, pb] [] pos) (tI X.K ad (evI P cf (.zip a b)) Wx) := by
  refine piI (pi_zip hg (gd.free "zip" (by decide)) (a_cons hs ha (a_cons hs' hb a_nil)) (star_no hs) (by rw [star_no hs']; rfl)) ?_
  rintro σ H R ⟨W, env, h, er, rl, p⟩
  rw [evI] at p
  refine two_args er rl p fun W2 h2 H2 v w x y rl2 qa qb p2 => ?_
  cases e1 : lstOf h2 v with
  | none =>
    rw [bind_bad (lstM_none e1)] at p2
    exact p2.elim
  | some xs =>
    rw [bind_ok (lstM_some e1)] at p2
    cases e2 : lstOf h2 w with
    | none =>
      rw [bind_bad (lstM_none e2)] at p2
      exact p2.elim
    | some ys =>
      rw [bind_ok (lstM_some e2)] at p2
      obtain ⟨c, rs, ex, sq, qs⟩ := lst_sq rl2 qa e1
      obtain ⟨d, rs', ey, sq', qs'⟩ := lst_sq rl2 qb e2
      subst ex
      subst ey
      exact ⟨c, d, rs, rs', rfl, sq, sq', Post.ok (a := (zipL xs ys, fun h => still v xs h && still w ys h)) p2 rl2 (wr_zip qa e1 qb e2)⟩
end
end Mn

set_option Elab.async false
set_option linter.all false
set_option maxRecDepth 100000
set_option maxHeartbeats 4000000
/-! Mini, part 8b: {k: v}, xs[::-1], isinstance. -/
namespace Mn
open PySem PySem.Spec PyProof.Rows L2
section
variable {X : Cx} {P : Prog} {cf : CF} {ad : String → Addr} {Wx : WX}
theorem VRs.rev {K : PySem.W.Frag} {W : Wd} : ∀ {xs : List LV} {rs : List V}, VRs K ad W xs rs → VRs K ad W xs.reverse rs.reverse
  | [], _, .nil => .nil
  | x :: xs, _, .cons h t => by
    rw [List.reverse_cons, List.reverse_cons]
    exact (VRs.rev t).append (.cons h .nil)
theorem e_rev {mu : Bool} {o : E} {po : Expr} {k : Nat} {p1 p2 p3 pos : Pos} (ho : PE X po (tE X.K ad (evE P cf o) Wx)) :
    PE X (.Subscript po (.Slice none none (some (.UnaryOp .USub (.Constant (.int 1) k p1) p2)) p3) pos) (tE X.K ad (evE P cf (.rev mu o)) Wx) := by
  refine peI (pe_revL ho) ?_
  rintro σ H Q ⟨W, env, h, er, rl, p⟩
  rw [evE] at p
  refine ⟨W, env, h, er, rl, p.seq fun v h1 W1 x H1 l1 rl1 qa p1 => ?_⟩
  unfold revV at p1
  cases e : lstOf h1 v with
  | none =>
    rw [bind_bad (lstM_none e)] at p1
    exact p1.elim
  | some xs =>
    rw [bind_ok (lstM_some e)] at p1
    obtain ⟨a, rs, ex, sq, vs⟩ := lst_sq rl1 qa e
    obtain ⟨_, q⟩ := mkL_ok rl1 vs.rev p1
    exact ⟨a, rs, ex, sq, q⟩
def ikn : IK → String
  | .list => "list"
  | .tuple => "tuple"
theorem isIV_ty {K : PySem.W.Frag} {W : Wd} {h h' : Hh} {H : Hp} {k : IK} {v : LV} {x : V} {b : Bool} (rl : Rel K ad W h H) (q : VR K ad W v x) (e : isIV k v h = .ok b h') : h' = h ∧ ∃ t, TyX K H x (.type t) ∧ kitB t (ikn k) = some b := by
  unfold isIV at e
  cases q with
  | non => cases e; exact ⟨rfl, _, .base .non, by cases k <;> decide +kernel⟩
  | int i => cases e; exact ⟨rfl, _, .base (.int i), by cases k <;> decide +kernel⟩
  | @lst a xs rs h1 h2 =>
    cases e
    rcases rl.fz _ _ h1 with h3 | ⟨o, h3⟩
    · exact ⟨rfl, _, .base (.lst h3), by cases k <;> decide +kernel⟩
    · exact ⟨rfl, _, .base (.frz h3), by cases k <;> decide +kernel⟩
  | @tup a xs rs h1 h2 =>
    cases e
    rcases rl.fz _ _ h1 with h3 | ⟨o, h3⟩
    · exact ⟨rfl, _, .base (.tup h3), by cases k <;> decide +kernel⟩
    · exact ⟨rfl, _, .fTuple h3, by cases k <;> decide +kernel⟩
  | @ref n a hn =>
    dsimp only at e
    cases e1 : h[n]? with
    | none => rw [e1] at e; cases e
    | some o =>
      rw [e1] at e
      cases o with
      | lst xs =>
        cases e
        obtain ⟨w, h3, rs, e4, _⟩ := rl.cl n a _ hn e1
        subst e4
        exact ⟨rfl, _, .base (.lst h3), by cases k <;> decide +kernel⟩
      | _ => cases e
  | _ => cases e
theorem isIV_no {k : IK} {v : LV} {h h' : Hh} {x : LX} : isIV k v h ≠ .exc x h' := by
  unfold isIV
  cases v with
  | ref n =>
    dsimp only
    split <;> exact fun e => nomatch e
  | _ => exact fun e => nomatch e
theorem e_isI (gd : Gd P ad X.K X.mg) {k : IK} {o : E} {po : Expr} {p p2 pos : Pos} (hg : Gl X "isinstance") (hg2 : Gl X (Str.ofString (ikn k))) (hs : isStar po = false) (ho : PE X po (tE X.K ad (evE P cf o) Wx)) :
    PE X (.Call (.Name "isinstance" p) [po, .Name (Str.ofString (ikn k)) p2] [] pos) (tE X.K ad (evE P cf (.isI k o)) Wx) := by
  have pt : PE X (.Name (Str.ofString (ikn k)) p2) (tC (.ty (ikn k))) := by
    cases k
    · exact pe_bltn (u := .type "list") hg2 (gd.free "list" (by decide)) (by decide +kernel) rfl (by decide) (by decide)
    · exact pe_bltn (u := .type "tuple") hg2 (gd.free "tuple" (by decide)) (by decide +kernel) rfl (by decide) (by decide)
  have hst := star_no (es := [.Name (Str.ofString (ikn k)) p2]) (env := X.env) hs
  have ha : PA X [po, .Name (Str.ofString (ikn k)) p2] (tCons (tE X.K ad (evE P cf o) Wx) (tCons (tC (.ty (ikn k))) tNil)) := pa_cons ho (pa_cons pt pa_nil rfl) hst
  refine peI (pe_callB call_isi hg (gd.free "isinstance" (by decide)) (by decide +kernel) ha (by decide) (by decide) hst rfl) ?_
  rintro σ H Q ⟨W, env, h, er, rl, p⟩
  rw [evE] at p
  refine ⟨W, env, h, er, rl, p.seq fun v h1 W1 x H1 l1 rl1 qa p1 => ?_⟩
  show rIsi X.K [x, .ty (ikn k)] H1 Q
  cases e : isIV k v h1 with
  | bad => rw [bind_bad e] at p1; exact p1.elim
  | exc y h2 => exact absurd e isIV_no
  | ok b h2 =>
    rw [bind_ok e] at p1
    obtain ⟨e2, t, ty, kb⟩ := isIV_ty rl1 qa e
    subst e2
    exact ⟨x, .ty (ikn k), .type t, .type (ikn k), b, rfl, .ty _, ty, kit_ty kb, Post.ok (a := LV.bl b) p1 rl1 (.bl b)⟩
theorem two_argsL {β α : Type} {R : Wd → α → β → Prop} {K : PySem.W.Frag} {W : Wd} {env : Env} {h : Hh} {H : Hp} {σ : St} {Q : β → Hp → Prop} {a b : E} {f : LV → LV → M α} (er : ER K ad W env σ) (rl : Rel K ad W h H)
    (p : Post K ad R Wx W σ Q ((do let x ← evE P cf a env; let y ← evE P cf b env; f x y) h)) {N : List V → Hp → Prop}
    (n : ∀ W2 h2 H2 v w x y, W.le W2 → Rel K ad W2 h2 H2 → VR K ad W2 v x → VR K ad W2 w y → Post K ad R Wx W2 σ Q (f v w h2) → N [x, y] H2) : tAr K ad (evs P cf (.cons a (.cons b .nil))) Wx σ H N := by
  refine ⟨W, env, h, er, rl, ?_⟩
  have z : evs P cf (.cons a (.cons b .nil)) env = (do let r ← (do let x ← evE P cf a env; let y ← evE P cf b env; pure (x, y) : M (LV × LV)); pure [r.1, r.2] : M (List LV)) := by
    rw [evs, evs, evs]
    simp only [bind_assoc', pure_bind']
  rw [z]
  have p' : Post K ad R Wx W σ Q ((do let r ← (do let x ← evE P cf a env; let y ← evE P cf b env; pure (x, y) : M (LV × LV)); f r.1 r.2) h) := by
    simpa only [bind_assoc', pure_bind'] using p
  have q : Post K ad (fun W (r : LV × LV) (u : V × V) => VR K ad W r.1 u.1 ∧ VR K ad W r.2 u.2) Wx W σ (fun u H2 => N [u.1, u.2] H2) ((do let x ← evE P cf a env; let y ← evE P cf b env; pure (x, y) : M (LV × LV)) h) :=
    p'.seq fun r h1 W1 u H1 l rl1 qa p1 => n W1 h1 H1 r.1 r.2 u.1 u.2 l rl1 qa.1 qa.2 p1
  refine q.map fun r W' us H' qr => ?_
  cases qr with
  | cons q1 q2 =>
    obtain ⟨y, e1, e2⟩ := vrs_one q2
    subst e1
    exact ⟨(_, y), ⟨q1, e2⟩, id⟩
theorem insV_cases (o i v : LV) (h : Hh) : insV o i v h = .bad ∨ ∃ n k xs, o = .ref n ∧ i = .int k ∧ h[n]? = some (.lst xs) ∧ xs.length < line ∧ 0 ≤ k ∧ k ≤ line ∧ insV o i v h = .ok .non (h.set n (.lst (xs.take k.toNat ++ [v] ++ xs.drop k.toNat))) := by
  unfold insV
  cases o with
  | ref n =>
    cases i with
    | int k =>
      dsimp only
      cases e : h[n]? with
      | none => exact .inl rfl
      | some ob =>
        cases ob with
        | lst xs =>
          dsimp only
          by_cases c : xs.length < line ∧ 0 ≤ k ∧ k ≤ line
          · exact .inr ⟨n, k, xs, rfl, rfl, e, c.1, c.2.1, c.2.2, if_pos c⟩
          · exact .inl (if_neg c)
        | _ => exact .inl rfl
    | _ => exact .inl rfl
  | _ => exact .inl rfl
theorem e_ins {o i e : E} {po pi_ pe : Expr} {apos pos : Pos} (hn : nullCall po = false) (hl : (apos.endLine == pos.line) = true) (hs : isStar pi_ = false) (hs2 : isStar pe = false)
    (ho : PE X po (tE X.K ad (evE P cf o) Wx)) (hi : PE X pi_ (tE X.K ad (evE P cf i) Wx)) (he : PE X pe (tE X.K ad (evE P cf e) Wx)) :
    PE X (.Call (.Attribute po "insert" apos) [pi_, pe] [] pos) (tE X.K ad (evE P cf (.ins o i e)) Wx) := by
  refine peI (pe_bm F.plainAttrs_list F.slot_list_insert F.type_list_insert mt_insert ho (a_cons hs hi (a_cons hs2 he a_nil)) (attrBase hn) ?_ hl (star_no hs) ?_) ?_
  · rw [star_no hs, star_no hs2]
    rfl
  · rw [star_any_eq]
    simp [hs2]
  rintro σ H Q ⟨W, env, h, er, rl, p⟩
  rw [evE] at p
  refine ⟨W, env, h, er, rl, p.seq fun v h1 W1 x H1 l1 rl1 qa p2 => ?_⟩
  cases e1 : lstOf h1 v with
  | none =>
    have : chkM .append v h1 = .bad := by
      unfold chkM
      rw [e1]
      rfl
    rw [bind_bad this] at p2
    exact p2.elim
  | some xs =>
    have : chkM .append v h1 = .ok () h1 := by
      unfold chkM
      rw [e1]
      rfl
    rw [bind_ok this] at p2
    obtain ⟨a, rs, ex, sq, _⟩ := lst_sq rl1 qa e1
    refine ⟨by rw [ex]; exact .inl ⟨rfl, rs, sq⟩, two_argsL (er.mono X.K ad l1) rl1 p2 fun W2 h2 H2 w z y y2 l2 rl2 qb qc p3 => ?_⟩
    have qa2 := qa.mono X.K ad l2
    rcases insV_cases v w z h2 with e | ⟨n, k, ys, ev, ew, e2, hlen, k0, k1, e⟩
    · rw [e] at p3
      exact p3.elim
    · rw [e] at p3
      subst ev
      subst ew
      cases qb
      cases qa2 with
      | @ref _ b hn =>
        obtain ⟨u, e3, qs, e4, q2⟩ := rl2.cl n b _ hn e2
        subst e4
        have k1' : k ≤ 16777216 := k1
        refine ⟨b, qs, k, y2, rfl, rfl, e3, by rw [← q2.length, ← line_eq]; exact hlen, k0, by omega, ?_⟩
        exact p3 W2 .non _ .refl (rl2.write hn e2 (by intro z; cases z) ⟨_, rfl, ((q2.take _).append (.cons qc .nil)).append (q2.drop _)⟩) .non
/-- list(range(n)) -/
theorem vrs_rng {K : PySem.W.Frag} {W : Wd} (a b : Int) : VRs K ad W (rangeL a b) (rgV a b) := by
  unfold rangeL rgV
  generalize List.range (b - a).toNat = l
  induction l with
  | nil => exact .nil
  | cons k l ih => exact .cons (.int _) ih
theorem e_lrng (gd : Gd P ad X.K X.mg) {mu : Bool} {a : E} {pa : Expr} {p p2 pos pos2 : Pos} (hc : X.calm = true) (hg : Gl X "list") (hg2 : Gl X "range") (hs : isStar pa = false) (ha : PE X pa (tE X.K ad (evE P cf a) Wx)) :
    PE X (.Call (.Name "list" p) [.Call (.Name "range" p2) [pa] [] pos2] [] pos) (tE X.K ad (evE P cf (.lrng mu a)) Wx) := by
  refine peI (pe_listRg hc hg (gd.free "list" (by decide)) (prg_1 hg2 (gd.free "range" (by decide)) ha (star_no hs)) rfl) ?_
  rintro σ H Q ⟨W, env, h, er, rl, p⟩
  rw [evE] at p
  refine ⟨W, env, h, er, rl, p.seq fun v h1 W1 x H1 l1 rl1 qa p1 => ?_⟩
  cases qa with
  | int j =>
    have p1' : Post X.K ad (VR X.K ad) Wx W1 σ Q ((do M.chk (decide (0 ≤ j) && decide (j ≤ (line : Int))); mkL mu (rangeL 0 j) : M LV) h1) := p1
    cases hb : (decide (0 ≤ j) && decide (j ≤ (line : Int))) with
    | false =>
      rw [hb] at p1'
      exact p1'.elim
    | true =>
      rw [hb] at p1'
      simp only [Bool.and_eq_true, decide_eq_true_eq] at hb
      obtain ⟨b1, b2⟩ := hb
      have b2' : j ≤ 16777216 := b2
      obtain ⟨_, q⟩ := mkL_ok rl1 (vrs_rng (ad := ad) 0 j) p1'
      exact ⟨j, rfl, .of_le (by omega) b2' (by omega) b1, q⟩
  | _ => exact p1.elim
theorem ER.same {K : PySem.W.Frag} {W W' : Wd} (e1 : W'.F = W.F) (e2 : W'.io = W.io) {env : Env} {σ : St} (e : ER K ad W env σ) : ER K ad W' env σ := ⟨e.len, fun i v h => by
  obtain ⟨r, h1, h2⟩ := e.at_ i v h
  exact ⟨r, h1, h2.same K ad e1 e2⟩⟩
/-- {x: c}, x a name, c a constant -/
theorem e_dict1 {i : Nat} {c : LV} {pk pv : Expr} {pos : Pos} (hk : ∀ Wx, PE X pk (tE X.K ad (evE P cf (.loc i)) Wx)) (hv : ∀ Wx, PE X pv (tE X.K ad (evE P cf (.cst c)) Wx)) :
    PE X (.Dict [some pk] [pv] pos) (tE X.K ad (evE P cf (.dict1 (.loc i) (.cst c))) Wx) := by
  refine peI (pe_disp (pps_cons (hk Wx) (hv Wx) pps_nil) rfl rfl (by simp) (by simp)) ?_
  rintro σ H Q ⟨W, env, h, er, rl, p⟩
  rw [evE, evE, evE] at p
  intro D hD
  have f0 := rl.fresh hD
  have rl0 : Rel X.K ad (W.priv D (.dK [])) h (upd H D (.dK [])) := (rl.junk (o := .dK []) f0.1 f0.2.1 f0.2.2).priv upd_same f0.1 f0.2.1
  have er0 : ER X.K ad (W.priv D (.dK [])) env σ := ER.same (W := W) (W' := W.priv D (.dK [])) rfl rfl er
  refine ⟨W.priv D (.dK []), env, h, er0, rl0, ?_⟩
  rw [evE]
  cases e : env[i]? with
  | none => rw [e] at p; exact p.elim
  | some o =>
    rw [e] at p
    cases o with
    | none => exact p.elim
    | some x =>
      dsimp only at p ⊢
      rw [pure_bind', pure_bind'] at p
      intro W1 x' H1 l1 rl1 qx
      refine ⟨W1, env, h, er0.mono X.K ad l1, rl1, ?_⟩
      rw [evE]
      intro W2 y' H2 l2 rl2 qy
      have ep : W2.pr = (D, .dK []) :: W.pr := l2.pr.trans l1.pr
      have pv := rl2.pv (D, .dK []) (by rw [ep]; exact List.mem_cons_self ..)
      refine ⟨pv.1, ?_⟩
      have hkB : keyB x = true := by
        cases hb : keyB x with
        | true => rfl
        | false =>
          have : mkD x c h = .bad := by
            unfold mkD
            rw [hb]
            rfl
          rw [this] at p
          exact p.elim
      have qx2 : VR X.K ad W2 x x' := qx.mono X.K ad l2
      obtain ⟨k, ek⟩ := key_vr qx2 hkB
      subst ek
      refine ⟨[(k, y')], rfl, by simp, ?_⟩
      have em : mergeK [] [(k, y')] = [(k, y')] := rfl
      rw [em]
      have e2 : mkD x c h = .ok (.ref h.length) (h ++ [.dct [(x, c)]]) := by
        unfold mkD
        rw [if_pos hkB]
      rw [e2] at p
      have l : W.le (W2.pub W.pr) := ⟨fun a o z => l2.fz a o (l1.fz a o z), fun n a z => l2.io n a (l1.io n a z), rfl⟩
      have rl3 : Rel X.K ad (W2.pub W.pr) h H2 := rl2.pubd fun q hq => by rw [ep]; exact List.mem_cons_of_mem _ hq
      have hpr : ∀ q ∈ W.pr, q.1 ≠ D := f0.2.2
      have rl4 : Rel X.K ad (W2.pub W.pr) h (upd H2 D (.dK [(k, y')])) := rl3.junk pv.2.1 pv.2.2 hpr
      refine p ((W2.pub W.pr).cell D) (.ref D) _ (l.trans Wd.le_cell) (rl4.toCell upd_same pv.2.1 pv.2.2 hpr ⟨[(k, y')], rfl, ?_, ?_⟩) (.ref ?_)
      · exact .cons (qx2.same X.K ad (W := W2) (W' := (W2.pub W.pr)) rfl rfl |>.mono X.K ad Wd.le_cell) .nil
      · exact .cons (qy.same X.K ad (W := W2) (W' := (W2.pub W.pr)) rfl rfl |>.mono X.K ad Wd.le_cell) .nil
      · rw [← rl4.len]
        exact Wd.cell_at
end
end Mn

set_option Elab.async false
set_option linter.all false
set_option maxRecDepth 100000
set_option maxHeartbeats 4000000
/-! Mini, part 9: targets, comprehensions. -/
namespace Mn
open PySem PySem.Spec PyProof.Rows L2
/-- what is wanted of an exception at σ is good enough at σ' -/
def Stab (Wx : WX) (σ σ' : St) : Prop := ∀ cls d H, Wx cls d σ H → Wx cls d σ' H
theorem Stab.refl {Wx : WX} {σ : St} : Stab Wx σ σ := fun _ _ _ h => h
theorem Stab.trans {Wx : WX} {a b c : St} (x : Stab Wx a b) (y : Stab Wx b c) : Stab Wx a c := fun cls d H h => y cls d H (x cls d H h)
/-- what a store may change: Z, at the slots that al names -/
structure Zok (Wx : WX) (Z : St → St → Prop) (al : Nat → Bool) : Prop where
  refl : ∀ σ, Z σ σ
  trans : ∀ a b c, Z a b → Z b c → Z a c
  st : ∀ a b, Z a b → Stab Wx a b
  set : ∀ i σ v, al i = true → Z σ (σ.set i v)
section
variable {K : PySem.W.Frag} {ad : String → Addr}
theorem Post.move {α β : Type} {R : Wd → α → β → Prop} {Wx : WX} {W : Wd} {σ σ' : St} {Q : β → Hp → Prop} (s : Stab Wx σ σ') : ∀ {r : Res α}, Post K ad R Wx W σ Q r → Post K ad R Wx W σ' Q r
  | .ok _ _, p => p
  | .exc _ _, p => fun W' cls d H' l rl x => s cls d H' (p W' cls d H' l rl x)
  | .bad, p => p
/-- the slots behind a store -/
def RE (K : PySem.W.Frag) (ad : String → Addr) (Z : St → St → Prop) (σ0 : St) (W : Wd) (env : Env) (σ : St) : Prop := ER K ad W env σ ∧ Z σ0 σ
theorem Post.moveE {Wx : WX} {Z : St → St → Prop} {al : Nat → Bool} (zk : Zok Wx Z al) {W : Wd} {σ σ' : St} {Q : St → Hp → Prop} (s : Z σ σ') {r : Res Env} (p : Post K ad (RE K ad Z σ) Wx W σ Q r) : Post K ad (RE K ad Z σ') Wx W σ' Q r := by
  have q := p.move (zk.st _ _ s)
  cases r with
  | ok a h => exact fun W' r H' l rl x => q W' r H' l rl ⟨x.1, zk.trans _ _ _ s x.2⟩
  | exc x h => exact q
  | bad => exact q
def gT (K : PySem.W.Frag) (ad : String → Addr) (m : LV → Env → M Env) (Z : St → St → Prop) (Wx : WX) : TG := fun v σ H Q => ∃ W env h lv, ER K ad W env σ ∧ Rel K ad W h H ∧ VR K ad W lv v ∧ Post K ad (RE K ad Z σ) Wx W σ Q (m lv env h)
def gTs (K : PySem.W.Frag) (ad : String → Addr) (m : List LV → Env → M Env) (Z : St → St → Prop) (Wx : WX) : TGs := fun vs σ H Q => ∃ W env h lvs, ER K ad W env σ ∧ Rel K ad W h H ∧ VRs K ad W lvs vs ∧ Post K ad (RE K ad Z σ) Wx W σ Q (m lvs env h)
end
section
variable {X : Cx} {ad : String → Addr} {P : Prog} {cf : CF} {Wx : WX} {Z : St → St → Prop} {al : Nat → Bool}
theorem pgI {e : Expr} {t t' : TG} (h : PG X e t) (i : ∀ v σ H Q, t' v σ H Q → t v σ H Q) : PG X e t' := ⟨fun pins s σ H v u Q I r q => h.run pins s σ H v u Q I r (i v σ H Q q)⟩
theorem pgsI {e : List Expr} {t t' : TGs} (h : PGs X e t) (i : ∀ v σ H Q, t' v σ H Q → t v σ H Q) : PGs X e t' := ⟨fun pins s σ H v u Q I r q => h.run pins s σ H v u Q I r (i v σ H Q q)⟩
theorem g_name (zk : Zok Wx Z al) {i : Nat} {x : Str} {pos : Pos} (ha : al i = true) (hN : X.N.Nodup) (hi : X.N[i]? = some x) (hx : Loc X.env.scope x) (hf : X.fn x = true ∨ X.env.scope.names.lookup x = some .local) : PG X (.Name x pos) (gT X.K ad (bindT P cf (.nm i)) Z Wx) := by
  refine pgI (pg_name hN hi hx hf) ?_
  rintro v σ H Q ⟨W, env, h, lv, er, rl, qv, p⟩
  rw [bindT] at p
  exact Post.ok (a := env.set i (some lv)) p rl ⟨er.set X.K ad qv i, zk.set i σ _ ha⟩
/-- the forms of targets in a row -/
def plainTg : Expr → Bool
  | .Starred _ _ => false
  | _ => true
theorem asg_each {e : Expr} {es : List Expr} {env : PySem.Env} (h : plainTg e = true) : assignEach (e :: es) env = (false, assign e env) :: assignEach es env := by
  cases e <;> first | rfl | cases h
theorem asg_len {env : PySem.Env} : ∀ {es : List Expr}, es.all plainTg = true → (assignEach es env).length = es.length ∧ (assignEach es env).findIdx? (·.1) = none
  | [], _ => ⟨rfl, rfl⟩
  | e :: es, h => by
    obtain ⟨h1, h2⟩ := Bool.and_eq_true_iff.mp (show (plainTg e && es.all plainTg) = true by simpa using h)
    obtain ⟨a, b⟩ := asg_len (env := env) h2
    rw [asg_each h1]
    refine ⟨congrArg Nat.succ a, ?_⟩
    rw [List.findIdx?_cons, b]
    rfl
theorem gs_nil (zk : Zok Wx Z al) : PGs X [] (gTs X.K ad (bindTs P cf .nil) Z Wx) := by
  refine pgsI pgs_nil ?_
  rintro v σ H Q ⟨W, env, h, lv, er, rl, qv, p⟩
  cases qv with
  | nil =>
    rw [bindTs] at p
    exact ⟨rfl, Post.ok (a := env) p rl ⟨er, zk.refl _⟩⟩
  | cons a b =>
    rw [bindTs] at p
    · exact p.elim
    all_goals (intros; simp_all)
theorem gs_cons (zk : Zok Wx Z al) {t : T} {ts : Ts} {e : Expr} {es : List Expr} (hp : plainTg e = true) (h1 : PG X e (gT X.K ad (bindT P cf t) Z Wx)) (h2 : PGs X es (gTs X.K ad (bindTs P cf ts) Z Wx)) : PGs X (e :: es) (gTs X.K ad (bindTs P cf (.cons t ts)) Z Wx) := by
  refine pgsI (pgs_cons h1 h2 (by rw [asg_each hp]; rfl)) ?_
  rintro v σ H Q ⟨W, env, h, lv, er, rl, qv, p⟩
  cases qv with
  | nil =>
    rw [bindTs] at p
    · exact p.elim
    all_goals (intros; simp_all)
  | @cons x xs r rs a b =>
    rw [bindTs] at p
    refine ⟨r, rs, rfl, W, env, h, x, er, rl, a, p.seq fun env1 h1 W1 σ1 H1 l rl1 q1 p1 => ?_⟩
    exact ⟨W1, env1, h1, xs, q1.1, rl1, b.mono X.K ad l, p1.moveE zk q1.2⟩
theorem g_tup (zk : Zok Wx Z al) {ts : Ts} {es : List Expr} {k : Nat} {pos : Pos} (hc : X.calm = true) (hp : es.all plainTg = true) (hl : es.length = lenT ts) (h : PGs X es (gTs X.K ad (bindTs P cf ts) Z Wx)) : PG X (.Tuple es k pos) (gT X.K ad (bindT P cf (.tup ts)) Z Wx) := by
  obtain ⟨a1, a2⟩ := asg_len (env := X.env) hp
  refine pgI (pg_tup hc h a1 a2) ?_
  rintro v σ H Q ⟨W, env, h, lv, er, rl, qv, p⟩
  rw [bindT] at p
  cases qv with
  | @tup a xs rs f q2 =>
    rw [show (tupV (.tup xs) : M (List LV)) = pure xs from rfl, pure_bind'] at p
    by_cases hx : xs.length = lenT ts
    · rw [bind_ok (a := ()) (h' := h) (by unfold M.chk; rw [if_pos (decide_eq_true hx)]; rfl)] at p
      exact ⟨a, rs, rfl, .inl (rl.fz _ _ f), by rw [← q2.length, hx, hl], W, env, h, xs, er, rl, q2, p⟩
    · rw [bind_bad (by unfold M.chk; rw [if_neg (by simpa using hx)]; rfl)] at p
      exact p.elim
  | _ =>
    rw [bind_bad rfl] at p
    exact p.elim
/-- o.f = v -/
def gFld (K : PySem.W.Frag) (to : TE) (f : Str) : TG := fun v σ H Q => to σ H fun x H1 => ∃ a C dx fs, x = .ref a ∧ H1 a = some (.ins C dx fs) ∧ Cls K C ∧ NoAttr K C f ∧ fs.length < 1000 ∧ Q σ (upd H1 a (.ins C dx (L2.putF f v fs)))
theorem pg_fld {o : Expr} {f : Str} {to : TE} {pos : Pos} (ho : PE X o to) : PG X (.Attribute o f pos) (gFld X.K to f) := by
  constructor
  intro pins s σ H v u Q I0 r0 h0
  rw [show assign (.Attribute o f pos) X.env u = (do
    let ov ← holding [u] (eval o X.env)
    standAt pos.atName
    holding [u, ov] (setAttr ov f u)
    release [u, ov] []) from rfl]
  refine wpAny_bind (wpAny_holding (thn (ho.run pins s σ H _ I0 h0) fun ov s1 hh => ?_))
  obtain ⟨x, H1, I1, rx, a, C, dx, fs, ex, ea, c, n, l, q⟩ := hh
  subst ex
  obtain rfl : ov = Value.ref a := rx
  refine wpAny_bind (wpAny_standAt (wpAny_bind (wpAny_holding (setattr_ok I1 ea c n l r0 fun s3 I3 => ?_))))
  exact wpAny_release ⟨σ, _, I3, q⟩
theorem setA_cases (P : Prog) (o : LV) (f : String) (v : LV) (h : Hh) : setA P o f v h = .bad ∨ ∃ n c fs, o = .ref n ∧ h[n]? = some (.ins c fs) ∧ isField P c f = true ∧ fs.length < 1000 ∧ setA P o f v h = .ok () (h.set n (.ins c (putF f v fs))) := by
  unfold setA
  split
  · split
    · split
      · rename_i hc
        exact .inr ⟨_, _, _, rfl, by assumption, hc.1, hc.2, rfl⟩
      · exact .inl rfl
    · exact .inl rfl
  · exact .inl rfl
theorem g_attr (zk : Zok Wx Z al) (gd : Gd P ad X.K X.mg) {o : E} {f : String} {po : Expr} {pos : Pos} (ho : PE X po (tE X.K ad (evE P cf o) Wx)) : PG X (.Attribute po (Str.ofString f) pos) (gT X.K ad (bindT P cf (.attr o f)) Z Wx) := by
  refine pgI (pg_fld ho) ?_
  rintro v σ H Q ⟨W, env, h, lv, er, rl, qv, p⟩
  rw [bindT] at p
  refine arg1_e er rl p fun W1 h1 H1 w x l1 rl1 qa p1 => ?_
  rcases setA_cases P w f lv h1 with e | ⟨n, c, fs, ew, e1, e2, e3, e⟩
  · rw [bind_bad e] at p1
    exact p1.elim
  · rw [bind_ok e] at p1
    subst ew
    cases qa with
    | @ref _ a hn =>
      obtain ⟨u, e4, dx, fr, e5, e6, q2⟩ := rl1.cl n a _ hn e1
      subst e5
      unfold isField at e2
      cases e7 : P.cls.lookup c with
      | none => rw [e7] at e2; cases e2
      | some k =>
        rw [e7] at e2
        obtain ⟨g1, g2, g3, g4, g5⟩ := gd.cls c k e7
        have fr1 : FRl X.K ad W1 fs fr := ⟨e6, q2⟩
        have fr2 := FRl.put (f := f) (qv.mono X.K ad l1) fr1
        refine ⟨a, ad c, dx, fr, rfl, e4, g2, g4 f e2, by rw [← fr1.length]; exact e3, ?_⟩
        exact p1 W1 σ _ .refl (rl1.write hn e1 (by intro z; cases z) ⟨dx, _, rfl, fr2.ks, fr2.vs⟩) ⟨er.mono X.K ad l1, zk.refl _⟩
/-- no slice -/
def isSl : Expr → Bool
  | .Slice _ _ _ _ => true
  | _ => false
theorem plain_ix {b : Expr} (h : isSl b = false) : PlainIx b := by
  intro o i
  cases b <;> first | rfl | cases h
theorem asg_sub {o i : Expr} {env : PySem.Env} {pos : Pos} (h : isSl i = false) (v : Value) : assign (.Subscript o i pos) env v = (do
      let ov ← holding [v] (eval o env)
      let iv ← holding [v, ov] (eval i env)
      standAt pos
      holding [v, ov, iv] (setItem ov iv v)
      release [v, ov, iv] []) := by
  cases i <;> first | rfl | cases h
theorem g_sub (hu : X.A.units + 66 < cLine) (zk : Zok Wx Z al) {o i : E} {po pi_ : Expr} {pos : Pos} (hs : isSl pi_ = false) (ho : PE X po (tE X.K ad (evE P cf o) Wx)) (hi : PE X pi_ (tE X.K ad (evE P cf i) Wx)) : PG X (.Subscript po pi_ pos) (gT X.K ad (bindT P cf (.sub o i)) Z Wx) := by
  refine pgI (pg_sub ho hi (set_any ad (by omega)) (fun v => asg_sub hs v)) ?_
  rintro v σ H Q ⟨W, env, h, lv, er, rl, qv, p⟩
  rw [bindT] at p
  refine arg1_e er rl p fun W1 h1 H1 w x l1 rl1 qa p1 => ?_
  refine arg1_e (er.mono X.K ad l1) rl1 p1 fun W2 h2 H2 w' y l2 rl2 qb p2 => ?_
  refine ⟨W2, h2, w, w', lv, Wx, σ, rl2, qa.mono X.K ad l2, qb, qv.mono X.K ad (l1.trans l2), p2.seq fun _ h3 W3 _ H3 l3 rl3 _ p3 => ?_⟩
  exact Post.ok (a := env) p3 rl3 ⟨er.mono X.K ad ((l1.trans l2).trans l3), zk.refl _⟩
end
/-! ### comprehensions -/
section
variable {K : PySem.W.Frag} {ad : String → Addr}
theorem noX_ok {α : Type} {m : M α} {h h' : Hh} {a : α} (e : m h = .ok a h') : noX m h = .ok a h' := by
  unfold noX
  rw [e]
theorem noX_exc {α : Type} {m : M α} {h h' : Hh} {x : LX} (e : m h = .exc x h') : noX m h = .bad := by
  unfold noX
  rw [e]
theorem noX_bad {α : Type} {m : M α} {h : Hh} (e : m h = .bad) : noX m h = .bad := by
  unfold noX
  rw [e]
abbrev NoX : WX := fun _ _ _ _ => False
/-- a step within a comprehension: private objects are out of the outer world's sight -/
theorem Post.seqP {α β γ δ ε : Type} {R : Wd → α → β → Prop} {R2 : Wd → γ → δ → Prop} {Wx : WX} {W : Wd} {σ σ' : St} {Q : δ → Hp → Prop} {Q1 : β → Hp → Prop} {m : M α} {k : α → M ε} {f : ε → M γ} {h : Hh} {l : List (Addr × HO)}
    (p : Post K ad R2 Wx (W.pub l) σ Q ((noX (m >>= k) >>= f) h)) (n : ∀ a h1 W1 b H1, W.le W1 → Rel K ad W1 h1 H1 → R W1 a b → Post K ad R2 Wx (W1.pub l) σ Q ((noX (k a) >>= f) h1) → Q1 b H1) : Post K ad R NoX W σ' Q1 (m h) := by
  cases e : m h with
  | ok a h1 =>
    intro W1 b H1 le rl q
    refine n a h1 W1 b H1 le rl q ?_
    have z : (noX (m >>= k) >>= f) h = (noX (k a) >>= f) h1 := by
      have e1 : (m >>= k) h = k a h1 := bind_ok e
      cases e2 : k a h1 with
      | ok b h2 => rw [bind_ok (noX_ok (e1.trans e2)), bind_ok (noX_ok e2)]
      | exc x h2 => rw [bind_bad (noX_exc (e1.trans e2)), bind_bad (noX_exc e2)]
      | bad => rw [bind_bad (noX_bad (e1.trans e2)), bind_bad (noX_bad e2)]
    rw [z] at p
    exact Post.mono (W := W.pub l) (W' := W1.pub l) ⟨le.fz, le.io, rfl⟩ p
  | exc x h1 =>
    rw [bind_bad (noX_exc (bind_exc e))] at p
    exact p.elim
  | bad =>
    rw [bind_bad (noX_bad (bind_bad e))] at p
    exact p.elim
theorem Zok.comp (vs : List Nat) : Zok NoX (fun σ σ' => wipe σ' vs = wipe σ vs) fun i => vs.contains i where
  refl := fun _ => rfl
  trans := fun a b c h1 h2 => h2.trans h1
  st := fun _ _ _ _ _ _ h => h.elim
  set := fun i σ v hi => by
    have hm : i ∈ vs := by simpa using hi
    clear hi
    refine List.ext_getElem? fun j => ?_
    by_cases hj : j ∈ vs
    · have key : ∀ σ : St, (wipe σ vs)[j]? = if j < σ.length then some none else none := fun σ => by
        by_cases hl : j < σ.length
        · rw [if_pos hl]
          have h1 : j < (wipe σ vs).length := by rw [wipe_length]; exact hl
          cases e : (wipe σ vs)[j]? with
          | none => rw [List.getElem?_eq_none_iff] at e; omega
          | some o =>
            cases o with
            | none => rfl
            | some x => exact absurd hj (wipe_some e).2
        · rw [if_neg hl]
          exact List.getElem?_eq_none (by rw [wipe_length]; omega)
      rw [key, key, List.length_set]
    · rw [wipe_out hj, wipe_out hj]
      have : i ≠ j := fun z => hj (z ▸ hm)
      rw [List.getElem?_set_ne this]
theorem wipe_wipe {σ : St} {vs : List Nat} : wipe (wipe σ vs) vs = wipe σ vs := by
  refine List.ext_getElem? fun j => ?_
  by_cases hj : j ∈ vs
  · have key : ∀ σ : St, (wipe σ vs)[j]? = if j < σ.length then some none else none := fun σ => by
      by_cases hl : j < σ.length
      · rw [if_pos hl]
        have h1 : j < (wipe σ vs).length := by rw [wipe_length]; exact hl
        cases e : (wipe σ vs)[j]? with
        | none => rw [List.getElem?_eq_none_iff] at e; omega
        | some o =>
          cases o with
          | none => rfl
          | some x => exact absurd hj (wipe_some e).2
      · rw [if_neg hl]
        exact List.getElem?_eq_none (by rw [wipe_length]; omega)
    rw [key, key, wipe_length]
  · rw [wipe_out hj]
end
section
variable {X : Cx} {ad : String → Addr} {P : Prog} {cf : CF} {Wx : WX}
def tTc (K : PySem.W.Frag) (ad : String → Addr) (m : Env → M Bool) (Wx : WX) : TT := fun σ H Q => ∃ W env h, ER K ad W env σ ∧ Rel K ad W h H ∧ Post K ad RQ Wx W σ Q (m env h)
theorem ptsI {e : List Expr} {t t' : TT} (h : PTs X e t) (i : ∀ σ H Q, t' σ H Q → t σ H Q) : PTs X e t' := ⟨fun pins s σ H Q I q => h.run pins s σ H Q I (i σ H Q q)⟩
theorem c_nil : PTs X [] (tTc X.K ad (evConds P cf .nil) Wx) := by
  refine ptsI pts_nil ?_
  rintro σ H Q ⟨W, env, h, er, rl, p⟩
  rw [evConds] at p
  exact Post.ok (a := true) p rl rfl
theorem c_one {e : E} {pe : Expr} (he : PT X pe (tT X.K ad (evE P cf e) Wx)) : PTs X [pe] (tTc X.K ad (evConds P cf (.cons e .nil)) Wx) := by
  refine ptsI (pts_one he) ?_
  rintro σ H Q ⟨W, env, h, er, rl, p⟩
  rw [evConds] at p
  exact ⟨W, env, h, er, rl, p⟩
/-- the turns of a comprehension, at a new list D -/
theorem comp_turns {K : PySem.W.Frag} {W1 : Wd} {env : Env} {h1 : Hh} {H1 : Hp} {σ : St} {Q : VK} {w : Wk} {J : It} {bind : LV → Env → M Env} {cond : Env → M Bool} {elt : Env → M LV} {own : List Nat} {mu : Bool} (er : ER K ad W1 env σ) (rl1 : Rel K ad W1 h1 H1) (qJ : WR K ad W1 w J)
    (p : Post K ad (VR K ad) Wx W1 σ Q ((do let xs ← noX (compL w.2 bind cond elt (wipeE env own) w.1 []); mkL mu xs : M LV) h1)) (D : Addr) (hD : H1 D = none) :
    ∃ Wf : Nat → Nat → Hp → Prop, (∃ m, Wf 0 m (upd H1 D (.lst []))) ∧ ∀ i m H, Wf i m H →
      (J.stop i H ∧ Q (.ref D) H) ∨ (J.go i H ∧ ∃ Nx : Hp → Prop, (∀ H', Nx H' → ∃ m', m' < m ∧ Wf (i + 1) m' H') ∧ ∀ x H', J.yld i H x H' → gT K ad bind (fun a b => wipe b own = wipe a own) NoX x (wipe σ own) H' fun σ2 H2 => wipe σ2 own = wipe σ own ∧ tTc K ad cond NoX σ2 H2 fun b H3 =>
        if b = true then tE K ad elt NoX σ2 H3 fun y H4 => ∃ acc, H4 D = some (.lst acc) ∧ acc.length < sizeLine ∧ Nx (upd H4 D (.lst (acc ++ [y]))) else Nx H3) := by
  have f0 := rl1.fresh hD
  -- the state at turn i
  let St1 : Nat → Hp → Prop := fun i H => ∃ (W' : Wd) (h' : Hh) (acc : List LV) (racc : List V), W1.sub W' ∧ W'.pr = (D, HO.lst racc) :: W1.pr ∧ Rel K ad W' h' H ∧ VRs K ad W' acc racc ∧
    Post K ad (VR K ad) Wx (W'.pub W1.pr) σ Q ((do let xs ← noX (compL w.2 bind cond elt (wipeE env own) (w.1.drop i) acc); mkL mu xs : M LV) h')
  refine ⟨fun i m H => m = w.1.length - i ∧ i ≤ w.1.length ∧ St1 i H, ⟨w.1.length, rfl, Nat.zero_le _, ?_⟩, ?_⟩
  · refine ⟨W1.priv D (.lst []), h1, [], [], ⟨fun _ _ h => h, fun _ _ h => h⟩, rfl, (rl1.junk (o := .lst []) f0.1 f0.2.1 f0.2.2).priv upd_same f0.1 f0.2.1, .nil, ?_⟩
    rw [List.drop_zero]
    exact p
  · rintro i m H ⟨rfl, hi, W', h', acc, racc, sb, epr, rl, qacc, p⟩
    by_cases hlt : i < w.1.length
    · -- one more item
      have hx : w.1[i]? = some w.1[i] := List.getElem?_eq_getElem hlt
      generalize w.1[i] = x at hx
      have ed : w.1.drop i = x :: w.1.drop (i + 1) := by
        have h2 := List.drop_eq_getElem_cons hlt
        rw [List.getElem?_eq_getElem hlt] at hx
        cases hx
        exact h2
      rw [ed] at p
      unfold compL at p
      cases hst : w.2 h' with
      | false =>
        rw [bind_bad (noX_bad (bind_bad (by unfold chkH; rw [hst]; rfl)))] at p
        exact p.elim
      | true =>
        obtain ⟨hgo, _⟩ := qJ i W' h' H sb rl hst
        obtain ⟨g1, g2⟩ := hgo x hx
        refine .inr ⟨g1, St1 (i + 1), fun H' s' => ⟨w.1.length - (i + 1), by omega, rfl, hlt, s'⟩, fun r H' hy => ?_⟩
        obtain ⟨W2, l2, rl2, qx⟩ := g2 r H' hy
        have p1 : Post K ad (VR K ad) Wx (W'.pub W1.pr) σ Q ((do let xs ← noX (do let e ← bind x (wipeE env own); let b ← cond e; match b with
          | true => do
            let v ← elt e
            M.chk (decide (acc.length < line))
            compL w.2 bind cond elt (wipeE env own) (w.1.drop (i + 1)) (acc ++ [v])
          | false => compL w.2 bind cond elt (wipeE env own) (w.1.drop (i + 1)) acc); mkL mu xs : M LV) h') := by
          have z : ∀ {α : Type} (k : Unit → M α), (chkH w.2 >>= k) h' = k () h' := fun k => bind_ok (by unfold chkH; rw [hst]; rfl)
          have z2 : ∀ {α β : Type} (k : Unit → M α) (f : α → M β), (noX (chkH w.2 >>= k) >>= f) h' = (noX (k ()) >>= f) h' := fun k f => by
            have zz : noX (chkH w.2 >>= k) h' = noX (k ()) h' := by
              unfold noX
              rw [z k]
            show M.bind _ f h' = M.bind _ f h'
            unfold M.bind
            rw [zz]
          rw [z2] at p
          exact p
        have p2 := Post.mono (W := W'.pub W1.pr) (W' := W2.pub W1.pr) ⟨l2.fz, l2.io, rfl⟩ p1
        have er2 : ER K ad W2 (wipeE env own) (wipe σ own) := by
          have e0 : ER K ad W2 env σ := ⟨er.len, fun j v hv => by
            obtain ⟨r, e1, e2⟩ := er.at_ j v hv
            exact ⟨r, e1, e2.sub (sb.trans l2.sub)⟩⟩
          exact e0.wipe K ad own
        refine ⟨W2, wipeE env own, h', x, er2, rl2, qx, p2.seqP fun e h3 W3 σ3 H3 l3 rl3 q3 p3 => ?_⟩
        refine ⟨q3.2.trans wipe_wipe, ?_⟩
        refine ⟨W3, e, h3, q3.1, rl3, p3.seqP fun bb h4 W4 b H4 l4 rl4 q4 p4 => ?_⟩
        subst q4
        cases b with
        | true =>
          rw [if_pos rfl]
          refine ⟨W4, e, h4, q3.1.mono K ad l4, rl4, p4.seqP fun v h5 W5 y H5 l5 rl5 q5 p5 => ?_⟩
          have l25 : W2.le W5 := (l3.trans l4).trans l5
          have epr5 : W5.pr = (D, HO.lst racc) :: W1.pr := by rw [l25.pr, l2.pr, epr]
          have hin : (D, HO.lst racc) ∈ W5.pr := by rw [epr5]; exact List.mem_cons_self
          obtain ⟨pv1, pv2, pv3⟩ := rl5.pv _ hin
          by_cases hlen : acc.length < line
          · have p6 : Post K ad (VR K ad) Wx (W5.pub W1.pr) σ Q ((do let xs ← noX (compL w.2 bind cond elt (wipeE env own) (w.1.drop (i + 1)) (acc ++ [v])); mkL mu xs : M LV) h5) := by
              have z : ∀ {α β : Type} (k : Unit → M α) (f : α → M β), (noX (M.chk (decide (acc.length < line)) >>= k) >>= f) h5 = (noX (k ()) >>= f) h5 := fun k f => by
                have zz : noX (M.chk (decide (acc.length < line)) >>= k) h5 = noX (k ()) h5 := by
                  unfold noX
                  rw [bind_ok (m := M.chk (decide (acc.length < line))) (a := ()) (h' := h5) (by unfold M.chk; rw [if_pos (decide_eq_true hlen)]; rfl)]
                show M.bind _ f h5 = M.bind _ f h5
                unfold M.bind
                rw [zz]
              rw [z] at p5
              exact p5
            refine ⟨racc, pv1, by rw [← qacc.length, ← line_eq]; exact hlen, ?_⟩
            have rlp := rl5.pubd (l := W1.pr) fun q hq => by rw [epr5]; exact List.mem_cons_of_mem _ hq
            have rlj := rlp.junk (p := D) (o := .lst (racc ++ [y])) pv2 pv3 f0.2.2
            refine ⟨(W5.pub W1.pr).priv D (.lst (racc ++ [y])), h5, acc ++ [v], racc ++ [y], ⟨fun a o z => l25.fz _ _ (l2.fz _ _ (sb.fz a o z)), fun n a z => l25.io _ _ (l2.io _ _ (sb.io n a z))⟩, rfl, rlj.priv upd_same pv2 pv3, ?_, p6⟩
            have s5 : W'.sub ((W5.pub W1.pr).priv D (.lst (racc ++ [y]))) := ⟨fun a o z => l25.fz _ _ (l2.fz _ _ z), fun n a z => l25.io _ _ (l2.io _ _ z)⟩
            exact (qacc.sub s5).append (.cons (VR.sub (W := W5) (W' := (W5.pub W1.pr).priv D (.lst (racc ++ [y]))) ⟨fun _ _ z => z, fun _ _ z => z⟩ q5) .nil)
          · have z : (M.chk (decide (acc.length < line)) : M Unit) h5 = .bad := by
              unfold M.chk
              rw [if_neg (by simpa using hlen)]
              rfl
            rw [bind_bad (noX_bad (bind_bad z))] at p5
            exact p5.elim
        | false =>
          rw [if_neg Bool.false_ne_true]
          have l24 : W2.le W4 := l3.trans l4
          exact ⟨W4, h4, acc, racc, ⟨fun a o z => l24.fz _ _ (l2.fz _ _ (sb.fz a o z)), fun n a z => l24.io _ _ (l2.io _ _ (sb.io n a z))⟩, by rw [l24.pr, l2.pr, epr], rl4, (qacc.mono K ad l2).mono K ad l24, p4⟩
    · -- the end
      have ei : i = w.1.length := by omega
      subst ei
      rw [List.drop_length] at p
      unfold compL at p
      cases hst : w.2 h' with
      | false =>
        rw [bind_bad (noX_bad (bind_bad (by unfold chkH; rw [hst]; rfl)))] at p
        exact p.elim
      | true =>
        obtain ⟨_, hstop⟩ := qJ w.1.length W' h' H sb rl hst
        refine .inl ⟨hstop (Nat.le_refl _), ?_⟩
        have z : noX (chkH w.2 >>= fun _ => (pure acc : M (List LV))) h' = .ok acc h' := noX_ok (bind_ok (by unfold chkH; rw [hst]; rfl))
        rw [bind_ok z] at p
        have hin : (D, HO.lst racc) ∈ W'.pr := by rw [epr]; exact List.mem_cons_self
        obtain ⟨pv1, pv2, pv3⟩ := rl.pv _ hin
        have rlp := rl.pubd (l := W1.pr) fun q hq => by rw [epr]; exact List.mem_cons_of_mem _ hq
        have qp : VRs K ad (W'.pub W1.pr) acc racc := VRs.sub (W := W') (W' := W'.pub W1.pr) ⟨fun _ _ z => z, fun _ _ z => z⟩ qacc
        unfold mkL at p
        by_cases hl : acc.length ≤ line
        · rw [if_pos hl] at p
          cases mu with
          | true =>
            refine p ((W'.pub W1.pr).cell D) (.ref D) H Wd.le_cell (rlp.toCell pv1 pv2 pv3 f0.2.2 ⟨racc, rfl, qp.mono K ad Wd.le_cell⟩) (.ref ?_)
            rw [← rlp.len]
            exact Wd.cell_at
          | false =>
            exact p ((W'.pub W1.pr).frz D (.lst racc)) (.ref D) H (Wd.le_frz pv2) (rlp.frz pv1 pv2 (fun n u e _ => absurd (List.mem_of_getElem? e) pv3) f0.2.2) (.lst Wd.frz_at (VRs.mono K ad (Wd.le_frz (W := W'.pub W1.pr) pv2) qp))
        · rw [if_neg hl] at p
          exact p.elim
def noSet : Expr → Bool
  | .Set _ _ _ => false
  | _ => true
theorem folded_no {iter : Expr} {env : PySem.Env} (h : noSet iter = true) (x : Value) : foldedSetIterable iter env x = pure x := by
  cases iter <;> first | rfl | cases h
theorem comp_read {K : PySem.W.Frag} {mu : Bool} {own : List Nat} {elt : E} {tg : T} {it : I} {cond : Es} (σ : St) (H : Hp) (Q : VK) (z : tE K ad (evE P cf (.comp mu own elt tg it cond)) Wx σ H Q) :
    tLc (tI K ad (evI P cf it) Wx) (gT K ad (bindT P cf tg) (fun a b => wipe b own = wipe a own) NoX) (tTc K ad (evConds P cf cond) NoX) (tE K ad (evE P cf elt) NoX) own σ H Q := by
  obtain ⟨W, env, h, er, rl, p⟩ := z
  rw [evE] at p
  refine ⟨W, env, h, er, rl, p.seq fun w h1 W1 J H1 l1 rl1 qJ p1 => fun D hD => ?_⟩
  exact comp_turns (er.mono K ad l1) rl1 qJ p1 D hD
theorem e_comp {mu : Bool} {own : List (Str × Nat)} {elt : E} {tg : T} {it : I} {cond : Es} {pelt ptg piter : Expr} {pifs : List Expr} {scope : Scope} {pos : Pos} (hc : X.calm = true) (hN : X.N.Nodup) (ok : BlkOk X.N X.env.scope scope own) (hs : noSet piter = true)
    (hi : PI X ptg piter (tI X.K ad (evI P cf it) Wx))
    (hb : ∀ (s : Shared) (H : Hp) (C : Addr) (cl : List (Str × Addr)) (fp : List Addr), PG (X.blk s H scope (compEnvC scope cl C X.env) fp) ptg (gT X.K ad (bindT P cf tg) (fun a b => wipe b (own.map (·.2)) = wipe a (own.map (·.2))) NoX) ∧
      PTs (X.blk s H scope (compEnvC scope cl C X.env) fp) pifs (tTc X.K ad (evConds P cf cond) NoX) ∧ PE (X.blk s H scope (compEnvC scope cl C X.env) fp) pelt (tE X.K ad (evE P cf elt) NoX)) :
    PE X (.ListComp pelt [⟨ptg, piter, pifs, 0⟩] scope pos) (tE X.K ad (evE P cf (.comp mu (own.map (·.2)) elt tg it cond)) Wx) :=
  peI (pe_lc hc hN hi ok (fun s H C cl fp => (hb s H C cl fp).1) (fun s H C cl fp => (hb s H C cl fp).2.1) (fun s H C cl fp => (hb s H C cl fp).2.2) (folded_no hs)) fun σ H Q => comp_read σ H Q
end
end Mn

set_option Elab.async false
set_option linter.all false
set_option maxRecDepth 100000
set_option maxHeartbeats 4000000
/-! Mini, part 10: statements. -/
namespace Mn
open PySem PySem.Spec PyProof.Rows L2
/-- how a block ends -/
inductive Fv where
  | nx | rt (v : V) | bk | ct
inductive FlR (K : PySem.W.Frag) (ad : String → Addr) (W : Wd) : Fl → Fv → Prop
  | nx : FlR K ad W .nx .nx
  | rt {v : LV} {r : V} : VR K ad W v r → FlR K ad W (.rt v) (.rt r)
  | bk : FlR K ad W .bk .bk
  | ct : FlR K ad W .ct .ct
def RF (K : PySem.W.Frag) (ad : String → Addr) (Wx : WX) (σ0 : St) (W : Wd) (a : Fl × Env) (b : Fv × St) : Prop := FlR K ad W a.1 b.1 ∧ ER K ad W a.2 b.2 ∧ Stab Wx σ0 b.2
def QD (D : Ends) (b : Fv × St) (H : Hp) : Prop := match b.1 with
  | .nx => D.nx b.2 H
  | .rt v => D.rt v H
  | .bk => D.bk b.2 H
  | .ct => D.ct b.2 H
def tS (K : PySem.W.Frag) (ad : String → Addr) (m : Env → M (Fl × Env)) (Wx : WX) : TS := fun D σ H => ∃ W env h, ER K ad W env σ ∧ Rel K ad W h H ∧ Post K ad (RF K ad Wx σ) Wx W σ (QD D) (m env h)
section
variable {K : PySem.W.Frag} {ad : String → Addr} {Wx : WX} {W : Wd}
theorem Post.moveF {σ σ' : St} {Q : Fv × St → Hp → Prop} (s : Stab Wx σ σ') {r : Res (Fl × Env)} (p : Post K ad (RF K ad Wx σ) Wx W σ Q r) : Post K ad (RF K ad Wx σ') Wx W σ' Q r := by
  have q := p.move s
  cases r with
  | ok a h => exact fun W' r H' l rl x => q W' r H' l rl ⟨x.1, x.2.1, s.trans x.2.2⟩
  | exc x h => exact q
  | bad => exact q
theorem QD.nx_of {D : Ends} {σ : St} {env : Env} {h : Hh} {H : Hp} (p : Post K ad (RF K ad Wx σ) Wx W σ (QD D) (.ok (.nx, env) h)) (er : ER K ad W env σ) (rl : Rel K ad W h H) : D.nx σ H :=
  Post.ok (r := ((.nx, σ) : Fv × St)) p rl ⟨.nx, er, .refl⟩
theorem QD.rt_of {D : Ends} {σ : St} {env : Env} {h : Hh} {H : Hp} {v : LV} {r : V} (p : Post K ad (RF K ad Wx σ) Wx W σ (QD D) (.ok (.rt v, env) h)) (er : ER K ad W env σ) (rl : Rel K ad W h H) (q : VR K ad W v r) : D.rt r H :=
  Post.ok (r := ((.rt r, σ) : Fv × St)) p rl ⟨.rt q, er, .refl⟩
theorem QD.bk_of {D : Ends} {σ : St} {env : Env} {h : Hh} {H : Hp} (p : Post K ad (RF K ad Wx σ) Wx W σ (QD D) (.ok (.bk, env) h)) (er : ER K ad W env σ) (rl : Rel K ad W h H) : D.bk σ H :=
  Post.ok (r := ((.bk, σ) : Fv × St)) p rl ⟨.bk, er, .refl⟩
theorem QD.ct_of {D : Ends} {σ : St} {env : Env} {h : Hh} {H : Hp} (p : Post K ad (RF K ad Wx σ) Wx W σ (QD D) (.ok (.ct, env) h)) (er : ER K ad W env σ) (rl : Rel K ad W h H) : D.ct σ H :=
  Post.ok (r := ((.ct, σ) : Fv × St)) p rl ⟨.ct, er, .refl⟩
end
section
variable {X : Cx} {ad : String → Addr} {P : Prog} {cf : CF} {Wx : WX} {al : Nat → Bool}
theorem s_pass {pos : Pos} : PS X (.Pass pos) (tS X.K ad (exS P cf .pass) Wx) := by
  refine psI ps_pass ?_
  rintro D σ H ⟨W, env, h, er, rl, p⟩
  rw [exS] at p
  exact QD.nx_of p er rl
theorem s_brk {pos : Pos} : PS X (.Break pos) (tS X.K ad (exS P cf .brk) Wx) := by
  refine psI ps_break ?_
  rintro D σ H ⟨W, env, h, er, rl, p⟩
  rw [exS] at p
  exact Post.ok (a := (Fl.bk, env)) (r := ((.bk, σ) : Fv × St)) p rl ⟨.bk, er, .refl⟩
theorem s_cont {pos : Pos} : PS X (.Continue pos) (tS X.K ad (exS P cf .cont) Wx) := by
  refine psI ps_continue ?_
  rintro D σ H ⟨W, env, h, er, rl, p⟩
  rw [exS] at p
  exact Post.ok (a := (Fl.ct, env)) (r := ((.ct, σ) : Fv × St)) p rl ⟨.ct, er, .refl⟩
theorem s_doc {x : Str} {j : Nat} {p1 p2 : Pos} : PS X (.Expr (.Constant (.str x) j p1) p2) (tS X.K ad (exS P cf .pass) Wx) := by
  refine psI ps_doc ?_
  rintro D σ H ⟨W, env, h, er, rl, p⟩
  rw [exS] at p
  exact QD.nx_of p er rl
theorem s_retN {pos : Pos} : PS X (.Return none pos) (tS X.K ad (exS P cf .retN) Wx) := by
  refine psI ps_retN ?_
  rintro D σ H ⟨W, env, h, er, rl, p⟩
  rw [exS] at p
  exact Post.ok (a := (Fl.rt .non, env)) (r := ((.rt .non, σ) : Fv × St)) p rl ⟨.rt .non, er, .refl⟩
theorem s_ret {e : E} {pe : Expr} {pos : Pos} (he : PE X pe (tE X.K ad (evE P cf e) Wx)) : PS X (.Return (some pe) pos) (tS X.K ad (exS P cf (.ret e)) Wx) := by
  refine psI (ps_ret he) ?_
  rintro D σ H ⟨W, env, h, er, rl, p⟩
  rw [exS] at p
  exact arg1_e er rl p fun W1 h1 H1 v x l1 rl1 qa p1 => Post.ok (a := (Fl.rt v, env)) (r := ((.rt x, σ) : Fv × St)) p1 rl1 ⟨.rt qa, er.mono X.K ad l1, .refl⟩
def isComp : Expr → Bool
  | .ListComp _ _ _ _ => true
  | .SetComp _ _ _ _ => true
  | .DictComp _ _ _ _ _ => true
  | _ => false
theorem swaps_no {e : Expr} {t : Option Expr} {l : Nat} {env : PySem.Env} (h : isComp e = false) : swapsWith e t l env = pure false := by
  cases e <;> first | rfl | cases h
theorem s_expr {e : E} {pe : Expr} {pos : Pos} (hc : isComp pe = false) (he : PE X pe (tE X.K ad (evE P cf e) Wx)) : PS X (.Expr pe pos) (tS X.K ad (exS P cf (.expr e)) Wx) := by
  refine psI (ps_expr he (swaps_no hc)) ?_
  rintro D σ H ⟨W, env, h, er, rl, p⟩
  rw [exS] at p
  exact arg1_e er rl p fun W1 h1 H1 v x l1 rl1 qa p1 => QD.nx_of p1 (er.mono X.K ad l1) rl1
theorem ss_nil : PSs X [] (tS X.K ad (exSs P cf .nil) Wx) := by
  refine pssI pss_nil ?_
  rintro D σ H ⟨W, env, h, er, rl, p⟩
  rw [exSs] at p
  exact QD.nx_of p er rl
theorem ss_cons {s : S} {r : Ss} {ps : Stmt} {prs : List Stmt} (h1 : PS X ps (tS X.K ad (exS P cf s) Wx)) (h2 : PSs X prs (tS X.K ad (exSs P cf r) Wx)) : PSs X (ps :: prs) (tS X.K ad (exSs P cf (.cons s r)) Wx) := by
  refine pssI (pss_cons h1 h2) ?_
  rintro D σ H ⟨W, env, h, er, rl, p⟩
  rw [exSs] at p
  refine ⟨W, env, h, er, rl, p.seq fun a h1 W1 b H1 l rl1 q p1 => ?_⟩
  obtain ⟨fl, e1⟩ := a
  obtain ⟨fv, σ1⟩ := b
  obtain ⟨q1, q2, q3⟩ := q
  have p2 := p1.moveF q3
  cases q1 with
  | nx => exact ⟨W1, e1, h1, q2, rl1, p2⟩
  | rt qv => exact QD.rt_of (D := D) p2 q2 rl1 qv
  | bk => exact QD.bk_of (D := D) p2 q2 rl1
  | ct => exact QD.ct_of (D := D) p2 q2 rl1
theorem s_if {c : E} {a b : Ss} {pc : Expr} {pa pb : List Stmt} {pos : Pos} (hc : PT X pc (tT X.K ad (evE P cf c) Wx)) (ha : PSs X pa (tS X.K ad (exSs P cf a) Wx)) (hb : PSs X pb (tS X.K ad (exSs P cf b) Wx)) : PS X (.If pc pa pb pos) (tS X.K ad (exS P cf (.ifS c a b)) Wx) := by
  refine psI (ps_if hc ha hb) ?_
  rintro D σ H ⟨W, env, h, er, rl, p⟩
  rw [exS] at p
  refine tb_of er rl p fun W1 h1 H1 c l rl1 p1 => ?_
  cases c with
  | true => exact ⟨W1, env, h1, er.mono X.K ad l, rl1, p1⟩
  | false => exact ⟨W1, env, h1, er.mono X.K ad l, rl1, p1⟩
/-! ### stores -/
theorem asg_read {K : PySem.W.Frag} {t : T} {e : E} {Z : St → St → Prop} (hz : ∀ a b, Z a b → Stab Wx a b) (D : Ends) (σ : St) (H : Hp) (z : tS K ad (exS P cf (.asg t e)) Wx D σ H) : tAsg (tE K ad (evE P cf e) Wx) (gT K ad (bindT P cf t) Z Wx) D σ H := by
  obtain ⟨W, env, h, er, rl, p⟩ := z
  rw [exS] at p
  refine arg1_e er rl p fun W1 h1 H1 v x l1 rl1 qa p1 => ?_
  refine ⟨W1, env, h1, v, er.mono K ad l1, rl1, qa, p1.seq fun e1 h2 W2 σ2 H2 l2 rl2 q p2 => ?_⟩
  exact QD.nx_of (p2.moveF (hz _ _ q.2)) q.1 rl2
def isNm : Expr → Bool
  | .Name _ _ => true
  | _ => false
theorem swaps_tg {e t : Expr} {l : Nat} {env : PySem.Env} (h : (isComp e && isNm t) = false) : swapsWith e (some t) l env = pure false := by
  by_cases hc : isComp e = true
  · rw [hc, Bool.true_and] at h
    cases t <;> first | cases h | skip
    all_goals (cases e <;> first | rfl | cases hc)
  · exact swaps_no (by simpa using hc)
/-- a store of what is no comprehension, at a target that takes no names out of turn -/
theorem s_asg (zk : Zok Wx (Stab Wx) al) {t : T} {e : E} {pt pe : Expr} {pos : Pos} (hc : (isComp pe && isNm pt) = false) (hp : plainTg pt = true) (hw : swappedStores [pt] pe X.env = pure none) (he : PE X pe (tE X.K ad (evE P cf e) Wx)) (hg : PG X pt (gT X.K ad (bindT P cf t) (Stab Wx) Wx)) :
    PS X (.Assign [pt] pe pos) (tS X.K ad (exS P cf (.asg t e)) Wx) := by
  refine psI (ps_asg he hg (swaps_tg hc) hw (by rw [asg_each hp]; rfl)) ?_
  exact fun D σ H => asg_read (fun _ _ h => h) D σ H
/-- a comprehension to a name: stored within or behind -/
def swC (scope : Scope) (sc : Scope) (y : Str) (py pos : Pos) : Bool := (sc.names.lookup y == some .local && py.line == pos.line) && !(scope.names.any fun (n, k) => n == y && (k == .local || k == .cell))
theorem sw_comp {elt : Expr} {gs : List Comprehension} {scope : Scope} {pos py : Pos} {y : Str} {l : Nat} {env : PySem.Env} (hk : env.scope.kind = .function) : swapsWith (.ListComp elt gs scope pos) (some (.Name y py)) l env = pure (swC scope env.scope y py pos) := by
  have hb : env.blockKind = .function := by unfold Env.blockKind; rw [hk]; rfl
  unfold swapsWith swC
  simp only [hb, Expr.pos, Env.kindOf]
  rfl
theorem stores_name {y : Str} {py : Pos} {e : Expr} {env : PySem.Env} : swappedStores [.Name y py] e env = pure none := rfl
theorem s_setC (zk : Zok Wx (Stab Wx) al) {i : Nat} {y : Str} {py : Pos} {mu : Bool} {own : List (Str × Nat)} {elt : E} {tg : T} {it : I} {cond : Es} {pelt ptg piter : Expr} {pifs : List Expr} {scope : Scope} {pos spos : Pos} (hk : X.env.scope.kind = .function)
    (ha : al i = true) (hy : X.N[i]? = some y) (hx : Loc X.env.scope y) (hf : X.fn y = true ∨ X.env.scope.names.lookup y = some .local)
    (hc : X.calm = true) (hN : X.N.Nodup) (ok : BlkOk X.N X.env.scope scope own) (hs : noSet piter = true)
    (hi : PI X ptg piter (tI X.K ad (evI P cf it) Wx))
    (hb : ∀ (s : Shared) (H : Hp) (C : Addr) (cl : List (Str × Addr)) (fp : List Addr), PG (X.blk s H scope (compEnvC scope cl C X.env) fp) ptg (gT X.K ad (bindT P cf tg) (fun a b => wipe b (own.map (·.2)) = wipe a (own.map (·.2))) NoX) ∧
      PTs (X.blk s H scope (compEnvC scope cl C X.env) fp) pifs (tTc X.K ad (evConds P cf cond) NoX) ∧ PE (X.blk s H scope (compEnvC scope cl C X.env) fp) pelt (tE X.K ad (evE P cf elt) NoX)) :
    PS X (.Assign [.Name y py] (.ListComp pelt [⟨ptg, piter, pifs, 0⟩] scope pos) spos) (tS X.K ad (exS P cf (.asg (.nm i) (.comp mu (own.map (·.2)) elt tg it cond))) Wx) := by
  cases hw : swC scope X.env.scope y py pos with
  | true =>
    have hl : X.env.scope.names.lookup y = some .local := by
      simp only [swC, Bool.and_eq_true, beq_iff_eq] at hw
      exact hw.1.1
    refine psI (ps_setLc hc hN hy hl ((sw_comp hk).trans (by rw [hw])) hi ok (fun s H C cl fp => (hb s H C cl fp).1) (fun s H C cl fp => (hb s H C cl fp).2.1) (fun s H C cl fp => (hb s H C cl fp).2.2) (folded_no hs)) ?_
    intro D σ H z
    have q := asg_read (K := X.K) (Z := Stab Wx) (fun _ _ h => h) D σ H z
    refine comp_read (mu := mu) σ H _ ?_
    obtain ⟨W, env, h, er, rl, p⟩ := z
    rw [exS] at p
    refine arg1_e er rl p fun W1 h1 H1 v x l1 rl1 qa p1 => ?_
    rw [bindT, pure_bind'] at p1
    exact QD.nx_of (p1.moveF (zk.st _ _ (zk.set i σ (some x) ha))) ((er.mono X.K ad l1).set X.K ad qa i) rl1
  | false =>
    refine psI (ps_asg (e_comp (mu := mu) hc hN ok hs hi hb) (g_name (ad := ad) zk (P := P) (cf := cf) ha hN hy hx hf) ((sw_comp (l := spos.line) hk).trans (by rw [hw])) stores_name rfl) ?_
    exact fun D σ H => asg_read (fun _ _ h => h) D σ H
/-! ### loops -/
theorem s_while (hp : PassesOwn (model X.prog X.w) X.A X.env X.xe) {c : E} {b : Ss} {pc : Expr} {pb : List Stmt} {pos : Pos} (hc : PT X pc (tT X.K ad (evE P cf c) Wx)) (hb : PSs X pb (tS X.K ad (exSs P cf b) Wx)) :
    PS X (.While pc pb [] pos) (tS X.K ad (exS P cf (.whileS c b)) Wx) := by
  refine psI (ps_while hp hc hb) ?_
  rintro D σ H ⟨W, env, h, er, rl, p⟩
  rw [exS] at p
  refine ⟨fun m σ' H' => ∃ W' env' h', ER X.K ad W' env' σ' ∧ Rel X.K ad W' h' H' ∧ Post X.K ad (RF X.K ad Wx σ') Wx W' σ' (QD D) (whileL (evE P cf c) (fun e => exSs P cf b e) m env' h'), ⟨P.wn, W, env, h, er, rl, p⟩, ?_⟩
  rintro m σ1 H1 ⟨W1, env1, h1, er1, rl1, p1⟩
  cases m with
  | zero =>
    rw [whileL] at p1
    exact p1.elim
  | succ m =>
    rw [whileL] at p1
    refine tb_of er1 rl1 p1 fun W2 h2 H2 c2 l rl2 p2 => ?_
    have er2 := er1.mono X.K ad l
    cases c2 with
    | true =>
      rw [if_pos rfl]
      refine ⟨fun σ' H' => ∃ W' env' h', ER X.K ad W' env' σ' ∧ Rel X.K ad W' h' H' ∧ Post X.K ad (RF X.K ad Wx σ') Wx W' σ' (QD D) (whileL (evE P cf c) (fun e => exSs P cf b e) m env' h'), fun σ' H' z => ⟨m, Nat.lt_succ_self m, z⟩, W2, env1, h2, er2, rl2, ?_⟩
      refine p2.seq fun a h3 W3 f H3 l3 rl3 q p3 => ?_
      obtain ⟨fl, e3⟩ := a
      obtain ⟨fv, σ3⟩ := f
      obtain ⟨q1, q2, q3⟩ := q
      have p4 := p3.moveF q3
      cases q1 with
      | nx => exact ⟨W3, e3, h3, q2, rl3, p4⟩
      | ct => exact ⟨W3, e3, h3, q2, rl3, p4⟩
      | bk => exact QD.nx_of (D := D) p4 q2 rl3
      | rt qv => exact QD.rt_of (D := D) p4 q2 rl3 qv
    | false =>
      rw [if_neg Bool.false_ne_true]
      exact QD.nx_of p2 er2 rl2
theorem s_for (zk : Zok Wx (Stab Wx) al) (hp : PassesOwn (model X.prog X.w) X.A X.env X.xe) (hc : X.calm = true) {t : T} {it : I} {b : Ss} {ptg pit : Expr} {pb : List Stmt} {pos : Pos} (hs : noSet pit = true) (hi : PI X ptg pit (tI X.K ad (evI P cf it) Wx)) (hg : PG X ptg (gT X.K ad (bindT P cf t) (Stab Wx) Wx))
    (hb : PSs X pb (tS X.K ad (exSs P cf b) Wx)) : PS X (.For ptg pit pb [] pos) (tS X.K ad (exS P cf (.forS t it b)) Wx) := by
  refine psI (ps_for hp hc hi hg hb (folded_no hs)) ?_
  rintro D σ H ⟨W, env, h, er, rl, p⟩
  rw [exS] at p
  refine ⟨W, env, h, er, rl, p.seq fun w h1 W1 J H1 l1 rl1 qJ p1 => ?_⟩
  let St1 : Nat → L2.St → Hp → Prop := fun i σ' H' => ∃ (W' : Wd) (env' : Env) (h' : Hh), W1.sub W' ∧ ER X.K ad W' env' σ' ∧ Rel X.K ad W' h' H' ∧ Post X.K ad (RF X.K ad Wx σ') Wx W' σ' (QD D) (forL w.2 (bindT P cf t) (fun e => exSs P cf b e) (w.1.drop i) env' h')
  refine ⟨fun i m σ' H' => m = w.1.length - i ∧ i ≤ w.1.length ∧ St1 i σ' H', ⟨w.1.length, rfl, Nat.zero_le _, W1, env, h1, ⟨fun _ _ z => z, fun _ _ z => z⟩, er.mono X.K ad l1, rl1, ?_⟩, ?_⟩
  · rw [List.drop_zero]
    exact p1
  rintro i m σ2 H2 ⟨rfl, hi2, W2, env2, h2, sb, er2, rl2, p2⟩
  by_cases hlt : i < w.1.length
  · have hx : w.1[i]? = some w.1[i] := List.getElem?_eq_getElem hlt
    have ed := List.drop_eq_getElem_cons hlt
    rw [ed] at p2
    generalize w.1[i] = x at hx p2
    unfold forL at p2
    cases hst : w.2 h2 with
    | false =>
      rw [bind_bad (by unfold chkH; rw [hst]; rfl)] at p2
      exact p2.elim
    | true =>
      rw [bind_ok (a := ()) (h' := h2) (by unfold chkH; rw [hst]; rfl)] at p2
      obtain ⟨hgo, _⟩ := qJ i W2 h2 H2 sb rl2 hst
      obtain ⟨g1, g2⟩ := hgo x hx
      refine .inr ⟨g1, St1 (i + 1), fun σ' H' z => ⟨w.1.length - (i + 1), by omega, rfl, hlt, z⟩, fun r H' hy => ?_⟩
      obtain ⟨W3, l3, rl3, qx⟩ := g2 r H' hy
      have p3 := Post.mono l3 p2
      refine ⟨W3, env2, h2, x, er2.mono X.K ad l3, rl3, qx, p3.seq fun e4 h4 W4 σ4 H4 l4 rl4 q4 p4 => ?_⟩
      refine ⟨W4, e4, h4, q4.1, rl4, (p4.moveF q4.2).seq fun a h5 W5 f H5 l5 rl5 q5 p5 => ?_⟩
      obtain ⟨fl, e5⟩ := a
      obtain ⟨fv, σ5⟩ := f
      obtain ⟨q1, q2, q3⟩ := q5
      have p6 := p5.moveF q3
      have sb5 : W1.sub W5 := ((sb.trans l3.sub).trans l4.sub).trans l5.sub
      cases q1 with
      | nx => exact ⟨W5, e5, h5, sb5, q2, rl5, p6⟩
      | ct => exact ⟨W5, e5, h5, sb5, q2, rl5, p6⟩
      | bk => exact QD.nx_of (D := D) p6 q2 rl5
      | rt qv => exact QD.rt_of (D := D) p6 q2 rl5 qv
  · have ei : i = w.1.length := by omega
    subst ei
    rw [List.drop_length] at p2
    unfold forL at p2
    cases hst : w.2 h2 with
    | false =>
      rw [bind_bad (by unfold chkH; rw [hst]; rfl)] at p2
      exact p2.elim
    | true =>
      rw [bind_ok (a := ()) (h' := h2) (by unfold chkH; rw [hst]; rfl)] at p2
      obtain ⟨_, hstop⟩ := qJ w.1.length W2 h2 H2 sb rl2 hst
      exact .inl ⟨hstop (Nat.le_refl _), QD.nx_of p2 er2 rl2⟩
/-! ### pairs stored out of turn -/
theorem s_par (zk : Zok Wx (Stab Wx) al) {i j : Nat} {x y : Str} {a b : E} {pa pb : Expr} {px py pt pos : Pos} {kt k2 : Nat} {pt2 : Pos} (hc : X.calm = true) (hN : X.N.Nodup) (hai : al i = true) (haj : al j = true) (hi : X.N[i]? = some x) (hj : X.N[j]? = some y) (hij : i ≠ j)
    (hx : X.env.scope.names.lookup x = some .local) (hy : X.env.scope.names.lookup y = some .local) (hw : swappedStores [.Tuple [.Name x px, .Name y py] kt pt] (.Tuple [pa, pb] k2 pt2) X.env = pure (some [x, y]))
    (ha : PA X [pa, pb] (tAr X.K ad (evs P cf (.cons a (.cons b .nil))) Wx)) :
    PS X (.Assign [.Tuple [.Name x px, .Name y py] kt pt] (.Tuple [pa, pb] k2 pt2) pos) (tS X.K ad (exS P cf (.asg (.tup (.cons (.nm i) (.cons (.nm j) .nil))) (.tup (.cons a (.cons b .nil))))) Wx) := by
  refine psI (ps_par hc hN hi hj hij hx hy ha hw rfl) ?_
  rintro D σ H ⟨W, env, h, er, rl, p⟩
  rw [exS, evE] at p
  simp only [bind_assoc'] at p
  refine ⟨W, env, h, er, rl, p.seq fun xs h1 W1 rs H1 l1 rl1 qs p1 => ?_⟩
  unfold mkT at p1
  by_cases hl : xs.length ≤ line
  · have p2 : Post X.K ad (RF X.K ad Wx σ) Wx W1 σ (QD D) ((do let e1 ← bindT P cf (.tup (.cons (.nm i) (.cons (.nm j) .nil))) (.tup xs) env; pure (Fl.nx, e1) : M (Fl × Env)) h1) := by
      have z : ∀ {α : Type} (k : LV → M α), ((fun h => if xs.length ≤ line then Res.ok (LV.tup xs) h else Res.bad : M LV) >>= k) h1 = k (.tup xs) h1 := fun k => bind_ok (if_pos hl)
      rw [z] at p1
      exact p1
    rw [bindT, show (tupV (.tup xs) : M (List LV)) = pure xs from rfl, pure_bind'] at p2
    cases qs with
    | nil =>
      rw [bind_bad (bind_bad rfl)] at p2
      exact p2.elim
    | @cons x1 xs r1 rs qa qs =>
      cases qs with
      | nil =>
        rw [bind_bad (bind_bad rfl)] at p2
        exact p2.elim
      | @cons x2 xs r2 rs qb qs =>
        cases qs with
        | cons qc qs =>
          rw [bind_bad (bind_bad (by unfold M.chk; rw [if_neg (by simp [lenT])]; rfl))] at p2
          exact p2.elim
        | nil =>
          have e3 : (do let _ ← M.chk (decide ([x1, x2].length = lenT (.cons (.nm i) (.cons (.nm j) .nil)))); bindTs P cf (.cons (.nm i) (.cons (.nm j) .nil)) [x1, x2] env : M Env) h1 = .ok ((env.set i (some x1)).set j (some x2)) h1 := by
            rw [bind_ok (m := M.chk _) (a := ()) (h' := h1) rfl]
            simp only [bindTs, bindT, pure_bind']
            rfl
          rw [bind_ok e3] at p2
          refine ⟨r1, r2, rfl, ?_⟩
          have s1 : Stab Wx σ ((σ.set i (some r1)).set j (some r2)) := (zk.st _ _ (zk.set i σ (some r1) hai)).trans (zk.st _ _ (zk.set j _ (some r2) haj))
          exact QD.nx_of (p2.moveF s1) (((er.mono X.K ad l1).set X.K ad qa i).set X.K ad qb j) rl1
  · have z : ∀ {α : Type} (k : LV → M α), ((fun h => if xs.length ≤ line then Res.ok (LV.tup xs) h else Res.bad : M LV) >>= k) h1 = .bad := fun k => bind_bad (if_neg hl)
    rw [z] at p1
    exact p1.elim
end
end Mn

set_option Elab.async false
set_option linter.all false
set_option maxRecDepth 100000
set_option maxHeartbeats 4000000
/-! Mini, part 11: how a call's values come to the names. -/
namespace Mn
open PySem PySem.Spec PyProof.Rows L2
/-! ### lookups -/
theorem lookup_app {α β : Type} [BEq α] (x : α) : ∀ (l r : List (α × β)), (l ++ r).lookup x = (l.lookup x).or (r.lookup x)
  | [], r => by simp
  | (k, v) :: l, r => by
    rw [List.cons_append, List.lookup_cons, List.lookup_cons]
    cases x == k with
    | true => rfl
    | false => exact lookup_app x l r
def addIf {α β : Type} [BEq α] (l : List (α × β)) (p : α × β) : List (α × β) := if (l.lookup p.1).isNone = true then l ++ [p] else l
theorem lookup_addIf {α β : Type} [BEq α] [LawfulBEq α] (x : α) (l : List (α × β)) (p : α × β) : (addIf l p).lookup x = (l.lookup x).or (([p] : List (α × β)).lookup x) := by
  unfold addIf
  by_cases h : (l.lookup p.1).isNone = true
  · rw [if_pos h, lookup_app]
  · rw [if_neg h]
    cases e : l.lookup x with
    | some v => rfl
    | none =>
      rw [Option.none_or, List.lookup_cons]
      cases e2 : x == p.1 with
      | false => rfl
      | true =>
        have := eq_of_beq e2
        subst this
        rw [e] at h
        exact absurd rfl h
theorem lookup_fold {α β : Type} [BEq α] [LawfulBEq α] (x : α) : ∀ (ds l : List (α × β)), (ds.foldl addIf l).lookup x = (l.lookup x).or (ds.lookup x)
  | [], l => by simp
  | p :: ds, l => by
    rw [List.foldl_cons, lookup_fold x ds (addIf l p), lookup_addIf, List.lookup_cons, List.lookup_cons]
    cases l.lookup x with
    | some v => rfl
    | none => cases x == p.1 <;> rfl
/-- a loop that only makes a value -/
theorem loop_pure {α σ : Type} {f : α → σ → Sem (ForInStep σ)} {g : σ → α → σ} (hf : ∀ a s, f a s = pure (.yield (g s a))) : ∀ (l : List α) (s : σ), forIn l s f = pure (l.foldl g s)
  | [], s => by rw [List.forIn_nil]; rfl
  | a :: l, s => by
    rw [List.forIn_cons, hf, List.foldl_cons]
    exact loop_pure hf l (g s a)
/-- the keywords may all be taken -/
def KwOk (names : Str → Bool) : List (Str × Value) → List (Str × Value) → Prop
  | [], _ => True
  | (k, v) :: r, l => names k = true ∧ (l.lookup k).isSome = false ∧ KwOk names r (l ++ [(k, v)])
theorem loop_kw {τ : Type} {names : Str → Bool} {f : Str × Value → List (Str × Value) × List τ → Sem (ForInStep (List (Str × Value) × List τ))} {ex : List τ} (hf : ∀ k v l, names k = true → (l.lookup k).isSome = false → f (k, v) (l, ex) = pure (.yield (l ++ [(k, v)], ex))) :
    ∀ (kw l : List (Str × Value)), KwOk names kw l → forIn kw (l, ex) f = pure (l ++ kw, ex)
  | [], l, _ => by rw [List.forIn_nil, List.append_nil]
  | (k, v) :: r, l, h => by
    obtain ⟨h1, h2, h3⟩ := h
    rw [List.forIn_cons, hf k v l h1 h2]
    show (forIn r (l ++ [(k, v)], ex) f : Sem _) = _
    rw [loop_kw hf r _ h3, List.append_assoc]
    rfl
/-- the keyword-only defaults, looked up -/
theorem loop_ko {K : PySem.W.Frag} {M : Model} {h : Heap} {kd : Value} (X : K.In h) {f : Str → List (Str × Value) × List Str → Sem (ForInStep (List (Str × Value) × List Str))}
    (hf : ∀ x l, ((l.lookup x).isNone = false → f x (l, []) = pure (.yield (l, []))) ∧ ((l.lookup x).isNone = true → ∀ D v, kd = .ref D → PySem.W.nsIn K D x = some (some v) → PySem.W.Looks M h (f x (l, [])) (.yield (l ++ [(x, v)], [])))) :
    ∀ (kz l : List (Str × Value)), (∀ q ∈ kz, ∃ D, kd = .ref D ∧ PySem.W.nsIn K D q.1 = some (some q.2)) → PySem.W.Looks M h (forIn (kz.map (·.1)) (l, ([] : List Str)) f) (kz.foldl addIf l, [])
  | [], l, _ => by
    rw [List.map_nil, List.forIn_nil]
    exact PySem.W.Looks.now
  | q :: kz, l, hq => by
    rw [List.map_cons, List.forIn_cons, List.foldl_cons]
    have ih := loop_ko X hf kz (addIf l q) fun p hp => hq p (List.mem_cons_of_mem _ hp)
    obtain ⟨D, e1, e2⟩ := hq q List.mem_cons_self
    have step : PySem.W.Looks M h (f q.1 (l, [])) (.yield (addIf l q, [])) := by
      unfold addIf
      cases hl : (l.lookup q.1).isNone with
      | true =>
        rw [if_pos rfl]
        exact (hf q.1 l).2 hl D q.2 e1 e2
      | false =>
        rw [if_neg (by simp), (hf q.1 l).1 hl]
        exact PySem.W.Looks.now
    exact step.andThen ih
theorem filterMap_zip {l : List (Str × Value)} : ∀ {xs : List Str} {vs : List Value}, mapO (fun x => l.lookup x) xs = some vs → xs.filterMap (fun n => (l.lookup n).map fun x => (n, x)) = xs.zip vs
  | [], vs, h => by
    cases h
    rfl
  | x :: xs, vs, h => by
    unfold mapO at h
    cases e : l.lookup x with
    | none => rw [e] at h; cases h
    | some v =>
      rw [e] at h
      dsimp only at h
      cases e2 : mapO (fun x => l.lookup x) xs with
      | none => rw [e2] at h; cases h
      | some ws =>
        rw [e2] at h
        cases h
        rw [List.filterMap_cons, e, filterMap_zip e2]
        rfl
theorem mapO_congr {α β : Type} {f g : α → Option β} : ∀ {xs : List α}, (∀ x ∈ xs, f x = g x) → mapO f xs = mapO g xs
  | [], _ => rfl
  | x :: xs, h => by
    unfold mapO
    rw [h x List.mem_cons_self, mapO_congr fun y hy => h y (List.mem_cons_of_mem _ hy)]
theorem mapO_some {α β : Type} {f : α → Option β} : ∀ {xs : List α} {ys : List β}, mapO f xs = some ys → ∀ x ∈ xs, (f x).isSome = true
  | [], _, _, x, hx => by cases hx
  | a :: xs, ys, h, x, hx => by
    unfold mapO at h
    cases e : f a with
    | none => rw [e] at h; cases h
    | some v =>
      rw [e] at h
      dsimp only at h
      cases e2 : mapO f xs with
      | none => rw [e2] at h; cases h
      | some ws =>
        rcases List.mem_cons.mp hx with z | z
        · rw [z, e]; rfl
        · exact mapO_some e2 x z
theorem mapO_len {α β : Type} {f : α → Option β} : ∀ {xs : List α} {ys : List β}, mapO f xs = some ys → ys.length = xs.length
  | [], _, h => by cases h; rfl
  | a :: xs, ys, h => by
    unfold mapO at h
    cases e : f a with
    | none => rw [e] at h; cases h
    | some v =>
      rw [e] at h
      dsimp only at h
      cases e2 : mapO f xs with
      | none => rw [e2] at h; cases h
      | some ws =>
        rw [e2] at h
        cases h
        exact congrArg Nat.succ (mapO_len e2)
theorem zip_lookup_none {β : Type} {x : Str} : ∀ {ps : List Str} {vs : List β}, x ∉ ps → (ps.zip vs).lookup x = none
  | [], _, _ => rfl
  | _ :: _, [], _ => rfl
  | p :: ps, v :: vs, h => by
    rw [List.zip_cons_cons, List.lookup_cons]
    have : (x == p) = false := by
      rw [beq_eq_false_iff_ne]
      exact fun z => h (z ▸ List.mem_cons_self)
    rw [this]
    exact zip_lookup_none fun z => h (List.mem_cons_of_mem _ z)
/-- the rule: what bindArgs gives -/
theorem bind_wp {K : PySem.W.Frag} {M : Model} {A : Around} {s : Shared} {fd : FuncData} {args : Args} {its kv vals : List Value} {Q : List (Str × Value) → Shared → Prop} {Ex : Value → Shared → Prop}
    (h1 : fd.params.posonlyargs = []) (h2 : fd.params.kwarg = none) (X : K.In s.heap)
    (hd : (its = [] ∧ fd.defaults = .none) ∨ ∃ (T : Addr) (o : Obj) (n : Nat), fd.defaults = .ref T ∧ K.lookup T = some o ∧ o.data = .seq its.toArray n) (hdl : its.length ≤ fd.params.args.length)
    (hkl : kv.length = fd.params.kwonlyargs.length) (hk : ∀ q ∈ (fd.params.kwonlyargs.map (·.arg)).zip kv, ∃ D, fd.kwdefaults = .ref D ∧ PySem.W.nsIn K D q.1 = some (some q.2))
    (hkw : KwOk (fun k => (fd.params.args.map (·.arg)).contains k || (fd.params.kwonlyargs.map (·.arg)).contains k) args.kw ((fd.params.args.map (·.arg)).zip args.pos))
    (hn : args.pos.length ≤ fd.params.args.length ∨ fd.params.vararg.isSome = true)
    (hv : mapO (fun x => (bindL (fd.params.args.map (·.arg)) args.pos args.kw its ((fd.params.kwonlyargs.map (·.arg)).zip kv)).lookup x) (fd.params.args.map (·.arg) ++ fd.params.kwonlyargs.map (·.arg)) = some vals)
    (hko : ∀ x ∈ fd.params.args.map (·.arg), x ∉ fd.params.kwonlyargs.map (·.arg))
    (hpn : (fd.params.args.map (·.arg)).Nodup)
    (q : match fd.params.vararg with
      | none => Q ((fd.params.args.map (·.arg) ++ fd.params.kwonlyargs.map (·.arg)).zip vals) s
      | some a => wpAny M A (newTuple (args.pos.drop fd.params.args.length)) (fun t s' => Q ((fd.params.args.map (·.arg) ++ fd.params.kwonlyargs.map (·.arg)).zip vals ++ [(a.arg, t)]) s') Ex s) :
    wpAny M A (bindArgs fd args) Q Ex s := by
  unfold bindArgs
  dsimp only
  simp only [h1, h2, List.map_nil, List.nil_append]
  generalize hps : fd.params.args.map (·.arg) = ps at *
  generalize hks : fd.params.kwonlyargs.map (·.arg) = ks at *
  have lps : ps.length = fd.params.args.length := by rw [← hps, List.length_map]
  have lks : ks.length = kv.length := by rw [hkl, ← hks, List.length_map]
  rw [loop_kw (names := fun k => ps.contains k || ks.contains k) (ex := []) (fun k v l e1 e2 => ?_) args.kw (ps.zip args.pos) hkw]
  refine wpAny_bind (wpAny_pure ?_)
  have hseq : PySem.W.Looks M s.heap (seqItems? fd.defaults) (if its = [] ∧ fd.defaults = .none then none else some its.toArray) := by
    rcases hd with ⟨e1, e2⟩ | ⟨T, o, n, e1, e2, e3⟩
    · rw [if_pos ⟨e1, e2⟩, e2]
      exact PySem.W.Looks.of_pure rfl
    · rw [if_neg (by rw [e1]; intro z; cases z.2), e1]
      intro A Q E s' kp q'
      exact wpAny_seqItems (kp _ _ (X _ _ e2)) e3 q'
  refine wpAny_bind (hseq.here ?_)
  have hgd : (((if its = [] ∧ fd.defaults = .none then none else some its.toArray : Option (Array Value)).getD #[]).toList) = its := by
    split
    · rename_i z
      rw [z.1]
      rfl
    · simp
  rw [hgd]
  have c1 : (decide (args.pos.length > ps.length) && fd.params.vararg.isNone) = false := by
    rcases hn with z | z
    · rw [decide_eq_false (by rw [lps]; omega)]
      rfl
    · cases e : fd.params.vararg with
      | none => rw [e] at z; cases z
      | some a => simp
  rw [if_neg (by rw [c1]; exact Bool.false_ne_true)]
  have e0 : its.drop (its.length - ps.length) = its := by
    rw [show its.length - ps.length = 0 by rw [lps]; omega, List.drop_zero]
  rw [e0]
  -- nothing is missing
  have hL : ∀ x, ((bindL ps args.pos args.kw its (ks.zip kv)).lookup x) = (((ps.zip args.pos ++ args.kw).lookup x).or (((ps.drop (ps.length - its.length)).zip its).lookup x)).or ((ks.zip kv).lookup x) := fun x => by
    unfold bindL
    rw [lookup_app, lookup_app, lookup_app, lookup_app]
    cases (ps.zip args.pos).lookup x <;> cases args.kw.lookup x <;> simp
  have hall := mapO_some hv
  have c2 : ((ps.take (ps.length - its.length)).filter fun n => ((ps.zip args.pos ++ args.kw).lookup n).isNone) = [] := by
    rw [List.filter_eq_nil_iff]
    intro x hx
    have hxp : x ∈ ps := List.mem_of_mem_take hx
    have h3 := hall x (List.mem_append_left _ hxp)
    rw [hL, zip_lookup_none (ps := ks) (hko x hxp), Option.or_none] at h3
    have hnd : x ∉ ps.drop (ps.length - its.length) := fun z => by
      have h4 := List.take_append_drop (ps.length - its.length) ps
      rw [← h4] at hpn
      exact (List.nodup_append.mp hpn).2.2 x hx x z rfl
    rw [zip_lookup_none hnd, Option.or_none] at h3
    simpa using h3
  rw [if_neg (by rw [c2]; simp)]
  rw [loop_pure (g := addIf) (fun p l => by
    unfold addIf
    by_cases h : (l.lookup p.1).isNone = true
    · rw [if_pos h, if_pos h]
    · rw [if_neg h, if_neg h])]
  refine wpAny_bind (wpAny_pure ?_)
  have hkz : (ks.zip kv).map (·.1) = ks := by
    rw [List.map_fst_zip]
    omega
  rw [← hkz]
  refine wpAny_bind (PySem.W.Looks.here (loop_ko (kd := fd.kwdefaults) X (fun x l => ⟨fun e => ?_, fun e D v e1 e2 => ?_⟩) (ks.zip kv) _ hk) ?_)
  · rw [if_neg (by rw [e]; exact Bool.false_ne_true)]
  · rw [if_pos e]
    simp only [e1]
    exact (PySem.W.looks_nsIn X e2).andThen PySem.W.Looks.now
  dsimp only
  rw [if_neg (by simp)]
  have hfin : ∀ x, ((ks.zip kv).foldl addIf (((ps.drop (ps.length - its.length)).zip its).foldl addIf (ps.zip args.pos ++ args.kw))).lookup x = (bindL ps args.pos args.kw its (ks.zip kv)).lookup x := fun x => by
    rw [lookup_fold, lookup_fold, hL]
  have hbinds : (ps ++ ks).filterMap (fun n => (((ks.zip kv).foldl addIf (((ps.drop (ps.length - its.length)).zip its).foldl addIf (ps.zip args.pos ++ args.kw))).lookup n).map fun x => (n, x)) = (ps ++ ks).zip vals := by
    refine filterMap_zip ?_
    rw [← hv]
    exact mapO_congr fun x _ => hfin x
  rw [hkz, hbinds]
  cases e : fd.params.vararg with
  | none =>
    rw [e] at q
    exact wpAny_pure q
  | some a =>
    rw [e] at q
    rw [lps]
    exact wpAny_bind (thn q fun t s' z => wpAny_pure z)
  · rw [if_pos e1, if_neg (by rw [e2]; exact Bool.false_ne_true)]
end Mn

set_option Elab.async false
set_option linter.all false
set_option maxRecDepth 100000
set_option maxHeartbeats 4000000
/-! Mini, part 11b: len(o) of an instance with its own __len__. -/
namespace Mn
open PySem PySem.Spec PyProof.Rows L2
theorem len_own {prog : Program} {w : World} {A : Around} {K : PySem.W.Frag} {s : Shared} {E : Value → Shared → Prop} {Q : Value → Shared → Prop} {a C f : Addr} (X : K.In s.heap) (ty : PySem.W.Looks (model prog w) s.heap (typeOf (.ref a)) (.ref C)) (hm : PySem.W.findIn K (.ref C) "__len__" = some (some (.ref f))) (hf : PySem.W.isFn K (.ref f) = true)
    (h : wpAny (model prog w) A.in1 (call (.ref f) [.ref a]) (fun v s' => ∃ i t, v = .int i t ∧ 0 ≤ i ∧ i < 2 ^ 63 ∧ ∀ t tk, Q (.int i t) { s' with toks := tk }) E s) : wpAny (model prog w) A (call (.builtin "len") [.ref a]) Q E s := by
  refine Calls.call_function_entry kind_len plain_len entry_len (args_len1 _) ?_
  unfold Builtin.«len»
  refine wpAny_bind (m := oneArg "len" _) (wpAny_pure ?_)
  have sp : wpAny (model prog w) A.in1 (callSpecial? (.ref a) (Str.ofString "__len__")) (fun r s' => ∃ i t, r = some (.int i t) ∧ 0 ≤ i ∧ i < 2 ^ 63 ∧ ∀ t tk, Q (.int i t) { s' with toks := tk }) E s := by
    unfold callSpecial? specialOf
    refine wpAny_bind (wpAny_bind (ty.here ((PySem.W.looks_findIn X hm).here ?_)))
    refine wpAny_holding (wpAny_bind ((PySem.W.bind_fn X _ (beq_iff_eq.mp hf)).here ?_))
    refine wpAny_bind (thn h fun v s' hv => wpAny_pure ?_)
    obtain ⟨i, t, e, h1, h2, h3⟩ := hv
    subst e
    exact ⟨i, t, rfl, h1, h2, h3⟩
  refine wpAny_bind (m := callSpecial? (.ref a) (Str.ofString "__len__")) (thn sp fun r s' hr => ?_)
  obtain ⟨i, t, e, h1, h2, h3⟩ := hr
  subst e
  refine wpAny_bind (wpAny_holding (wpAny_pure ?_))
  refine wpAny_bind (wpAny_letGo ?_)
  show wpAny _ _ (if i < 0 then _ else _) _ _ _
  rw [if_neg (by omega)]
  show wpAny _ _ (if i ≥ 2 ^ 63 then _ else _) _ _ _
  rw [if_neg (by omega)]
  exact wpAny_bind (wpAny_mkInt (wpAny_pure ⟨_, rfl, h3 _ _⟩))
section
variable {X : Cx} {ad : String → Addr} {P : Prog} {cf : CF} {Wx : WX} {n : Nat}
/-- a call of f from within a built-in function -/
theorem run_in1 {pins : List (Addr × Obj)} {σ : St} {H : Hp} {s : Shared} {Q : VK} {us : List Value} {vs : List V} {f : String} (F : FnG ad cf n X.prog X.w X.K X.mg X.base f) (hr : Room (2 * n + 1) X.A) (hg : X.A.guards = some []) (tk : Takes X Wx)
    (I : Inv X pins σ H s) (r : Vals vs us) (h : spG ad X.K cf f vs [] [] H Q fun cls d H' => Wx cls d σ H') : wpAny (model X.prog X.w) X.A.in1 (call (.ref (ad f)) us) (EP X pins σ Q) X.xe s := by
  have e0 := I.env0
  have e1 : Env0 X.prog X.w X.K X.mg X.base X.A.in1 X.stack s H := ⟨e0.frames, e0.mod, e0.bs, e0.bsz, e0.funs, e0.frf, e0.hok, e0.bare⟩
  refine wpAny_call (codeAny_mono (F X.A.in1 X.stack s H us [] vs [] [] Q _ ⟨hr.in1, hg⟩ e1 r .nil h) fun r s' hq => ?_)
  cases r with
  | error e => exact tk e s' (XE.of_call I (fun _ _ _ z => z) hq)
  | ok fl =>
    cases fl with
    | ret u => exact I.after hq
    | next => exact False.elim hq
    | brk => exact False.elim hq
    | cont => exact False.elim hq
theorem lenC_cases (v : LV) : lenC v = M.bad ∨ ∃ i, v = .int i ∧ 0 ≤ i ∧ i < 9223372036854775808 ∧ lenC v = pure (.int i) := by
  unfold lenC
  split
  · rename_i i
    by_cases c : 0 ≤ i ∧ i < 9223372036854775808
    · rw [if_pos c]
      exact .inr ⟨i, rfl, c.1, c.2, rfl⟩
    · rw [if_neg c]
      exact .inl rfl
  · exact .inl rfl
theorem e_lenO (gd : Gd P ad X.K X.mg) (F : ∀ f, FnG ad cf n X.prog X.w X.K X.mg X.base f) (hr : Room (2 * n + 1) X.A) (hgu : X.A.guards = some []) (tk : Takes X Wx) (hg : Gl X "len") {o : E} {po : Expr} {p pos : Pos} (hs : isStar po = false) (ho : PE X po (tE X.K ad (evE P cf o) Wx)) :
    PE X (.Call (.Name "len" p) [po] [] pos) (tE X.K ad (evE P cf (.lenO o)) Wx) := by
  refine ⟨fun pins s σ H Q I ⟨W, env, h, er, rl, pp⟩ => ?_⟩
  rw [evE] at pp
  have z : tAr X.K ad (evs P cf (.cons o .nil)) Wx σ H fun vs H1 => ∃ a c dx fr g, vs = [.ref a] ∧ H1 a = some (.ins (ad c) dx fr) ∧ Cls X.K (ad c) ∧ Meth X.K (ad c) "__len__" (ad g) ∧
      spG ad X.K cf g [.ref a] [] [] H1 (fun v H2 => ∃ i : Int, v = .int i ∧ 0 ≤ i ∧ i < 9223372036854775808 ∧ Q (.int i) H2) fun cls d H' => Wx cls d σ H' := by
    refine arg1_of er rl pp fun W1 h1 H1 v x l1 rl1 qa p1 => ?_
    rcases methM_cases P v "__len__" h1 with e | ⟨c, fs, k, g, e1, e4, e5, e6, e⟩
    · rw [bind_bad e] at p1
      exact p1.elim
    · rw [bind_ok e] at p1
      obtain ⟨a, dx, fr, ex, ea, q⟩ := ins_at rl1 qa e1
      obtain ⟨g1, g2, g3, g4, g5⟩ := gd.cls c k e4
      subst ex
      refine ⟨a, c, dx, fr, g, rfl, ea, g2, g5 _ g e5, W1, h1, [v], [], rl1, .cons qa .nil, .nil, ?_⟩
      have p2 : Post X.K ad (VR X.K ad) Wx W1 σ Q ((do let r ← cf g [v] []; lenC r : M LV) h1) := p1
      refine p2.out.seq fun r h2 W2 u H2 l2 rl2 qr p3 => ?_
      rcases lenC_cases r with y | ⟨i, er, y1, y2, y⟩
      · rw [y] at p3
        exact p3.elim
      · rw [y] at p3
        subst er
        cases qr
        exact ⟨i, rfl, y1, y2, Post.ok (a := LV.int i) p3 rl2 (.int i)⟩
  have hst := star_no (es := []) (env := X.env) hs
  refine wpAny_Call_Name_kw (ld_blt I hg (gd.free "len" (by decide)) boot_len ?_ (by decide) (by decide))
  refine PyProof.Rows.callWith_builtin1 (thn ((a_cons hs ho a_nil).run pos pins s σ H _ I z) fun us s1 ⟨vs, H1, I1, r1, a, c, dx, fr, g, ev, ea, cl, me, hsp⟩ => ?_) hst rfl
  subst ev
  obtain ⟨u, eu, ru⟩ := vals1 r1
  subst eu
  obtain rfl : u = Value.ref a := ru
  obtain ⟨mA, O, _⟩ := ins_get I1.hok ea
  obtain ⟨od, J, _⟩ := O.look
  refine len_own I1.kIn J.type me.at_ me.fn (thn (run_in1 (F g) hr hgu tk I1 r1 hsp) fun v s2 hv => ?_)
  obtain ⟨y, H2, I2, ry, i, ey, i1, i2, q⟩ := hv
  subst ey
  obtain ⟨t, rfl⟩ := ry
  exact ⟨i, t, rfl, i1, i2, fun t' tk' => ⟨.int i, H2, I2.tok _, ⟨_, rfl⟩, q⟩⟩
end
end Mn

set_option Elab.async false
set_option linter.all false
set_option maxRecDepth 100000
set_option maxHeartbeats 4000000
/-! Mini, part 12: a text's expressions against the interpreter's: the check, and that it is right. -/
namespace Mn
open PySem PySem.Spec PyProof.Rows L2

/-! ### the check -/
structure Ck where
  N : List Str
  sc : Scope
  fn : Str → Bool
def lkB (sc : Scope) (x : Str) (k : NameKind) : Bool := decide (sc.names.lookup x = some k)
def visB (c : Ck) (x : Str) : Bool := lkB c.sc x .local || (lkB c.sc x .cell || lkB c.sc x .free)
def locB (c : Ck) (x : Str) : Bool := lkB c.sc x .local || (lkB c.sc x .cell && c.fn x)
def glB (c : Ck) (x : Str) : Bool := lkB c.sc x .globalImplicit
def dbgB (x : Str) : Bool := !(x == ("__debug__" : Str))
def sl (c : Ck) (i : Nat) (x : Str) : Bool := decide (c.N[i]? = some x)
def nmB (f : String) (x : Str) : Bool := decide (x = Str.ofString f)
def Ck.blk (c : Ck) (scope : Scope) : Ck := { c with sc := relS scope c.sc, fn := fun x => scope.names.lookup x == some .cell }
def ownP (c : Ck) (own : List Nat) : List (Str × Nat) := own.map fun i => ((c.N[i]?).getD ⟨#[]⟩, i)
def kwsB (ks : List String) (kws : List Keyword) : Bool := decide (kws.filterMap kwName = ks.map Str.ofString)
/-- the forms that are looked at as they are where a truth is asked -/
def plainT : Expr → Bool
  | .UnaryOp .Not _ _ => false
  | .BoolOp _ _ _ => false
  | .IfExp _ _ _ _ => false
  | .Compare _ _ _ _ => false
  | _ => true
/-- and, or: what stands behind the first -/
def restB (op : BoolOp) (pb : Expr) (rest : List Expr) (pos : Pos) : Expr := match rest with
  | [] => pb
  | _ => .BoolOp op (pb :: rest) pos
def isLocE : E → Bool
  | .loc _ => true
  | _ => false
def isCstE : E → Bool
  | .cst _ => true
  | _ => false
def ckComp (c : Ck) (scope : Scope) (own : List Nat) : Bool := blkC c.N c.sc scope (ownP c own)
section
variable (P : Prog)
mutual
def ckE : E → Ck → Expr → Bool
  | .loc i, c, pe => match pe with
    | .Name x _ => sl c i x && (visB c x && (dbgB x && !(x == ("__classdict__" : Str))))
    | _ => false
  | .cst v, c, pe => match pe with
    | .Constant k _ _ => cstB v k
    | _ => false
  | .glo f, c, pe => match pe with
    | .Name x _ => nmB f x && (glB c x && (dbgB x && (P.glob.lookup f).isSome))
    | _ => false
  | .bin op a b, c, pe => match pe with
    | .BinOp pa o pb _ => decide (o = opk op) && (ckE a c pa && ckE b c pb)
    | _ => false
  | .neg a, c, pe => match pe with
    | .UnaryOp o pa _ => decide (o = .USub) && ckE a c pa
    | _ => false
  | .not a, c, pe => match pe with
    | .UnaryOp o pa _ => decide (o = .Not) && ckE a c pa
    | _ => false
  | .and a b, c, pe => match pe with
    | .BoolOp o (pa :: pb :: rest) pos => decide (o = .And) && (ckE a c pa && ckE b c (restB .And pb rest pos))
    | _ => false
  | .or a b, c, pe => match pe with
    | .BoolOp o (pa :: pb :: rest) pos => decide (o = .Or) && (ckE a c pa && ckE b c (restB .Or pb rest pos))
    | _ => false
  | .cmp op a b, c, pe => match pe with
    | .Compare pa [o] [pb] _ => decide (o = copk op) && (!behindInMarks o pb && (ckE a c pa && ckE b c pb))
    | _ => false
  | .chain op op' a b d, c, pe => match pe with
    | .Compare pa [o, o'] [pb, pd] _ => decide (o = copk op) && (decide (o' = copk op') && (!lastMarks [o, o'] [pb, pd] && (ckE a c pa && (ckE b c pb && ckE d c pd))))
    | _ => false
  | .reprEq a b, c, pe => match pe with
    | .Compare (.Call (.Name x _) [pa] [] _) [o] [.Call (.Name y _) [pb] [] _] _ => decide (o = .Eq) && (nmB "repr" x && (nmB "repr" y && (glB c x && (!isStar pa && (!isStar pb && (ckE a c pa && ckE b c pb))))))
    | _ => false
  | .ite t a b, c, pe => match pe with
    | .IfExp pt pa pb _ => ckE t c pt && (ckE a c pa && ckE b c pb)
    | _ => false
  | .call f es ks kes, c, pe => match pe with
    | .Call (.Name x _) pes kws _ => nmB f x && (glB c x && (dbgB x && (P.defs.contains f && (okArgs pes kws && (kwsB ks kws && (ckEs es c pes && ckKs kes c kws))))))
    | _ => false
  | .make f es ks kes, c, pe => match pe with
    | .Call (.Name x _) pes kws _ => nmB f x && (glB c x && (dbgB x && ((P.cls.lookup f).isSome && (okArgs pes kws && (kwsB ks kws && (ckEs es c pes && ckKs kes c kws))))))
    | _ => false
  | .bcall f es, c, pe => match pe with
    | .Call (.Name x _) (pa :: pes) [] _ => nmB (bfn f) x && (glB c x && (!(pa :: pes).any isStar && ckEs es c (pa :: pes)))
    | _ => false
  | .meth o m es ks kes, c, pe => match pe with
    | .Call (.Attribute po y apos) pes kws pos => nmB m y && (!nullCall po && ((apos.endLine == pos.line) && (!pes.any isStar && (decide (pes.length + kws.length < 29) && (okArgs pes kws && (kwsB ks kws && (ckE o c po && (ckEs es c pes && ckKs kes c kws))))))))
    | _ => false
  | .bmeth o m es, c, pe => match pe with
    | .Call (.Attribute po y apos) [pa] [] pos => nmB (match m with | .append => "append" | .join => "join") y && (!nullCall po && ((apos.endLine == pos.line) && (!isStar pa && (ckE o c po && ckEs es c [pa]))))
    | _ => false
  | .attr o f, c, pe => match pe with
    | .Attribute po y _ => nmB f y && (!nullCall po && ckE o c po)
    | _ => false
  | .sub o i, c, pe => match pe with
    | .Subscript po pi_ _ => !isSl pi_ && (ckE o c po && ckE i c pi_)
    | _ => false
  | .slice o lo hi, c, pe => match pe with
    | .Subscript po (.Slice plo phi none _) _ => ckE o c po && (ckO lo c plo && ckO hi c phi)
    | _ => false
  | .tup es, c, pe => match pe with
    | .Tuple pes _ _ => ckEs es c pes
    | _ => false
  | .list mu es, c, pe => match pe with
    | .List pes _ => ckEs es c pes
    | _ => false
  | .comp mu own elt tg it cond, c, pe => match pe with
    | .ListComp pelt [⟨ptg, piter, pifs, 0⟩] scope _ => ckComp c scope own && (noSet piter && (ckI it c ptg piter && (ckT tg (c.blk scope) (fun i => own.contains i) ptg && (ckC cond (c.blk scope) pifs && ckE elt (c.blk scope) pelt))))
    | _ => false
  | .frz e, c, pe => plainT pe && ckE e c pe
  | .never, _, _ => true
  | .ins o i v, c, pe => match pe with
    | .Call (.Attribute po y apos) [pi_, pv] [] pos => nmB "insert" y && (!nullCall po && ((apos.endLine == pos.line) && (!isStar pi_ && (!isStar pv && (ckE o c po && (ckE i c pi_ && ckE v c pv))))))
    | _ => false
  | .lrng mu a, c, pe => match pe with
    | .Call (.Name x _) [.Call (.Name y _) [pa] [] _] [] _ => nmB "list" x && (nmB "range" y && (glB c x && (glB c y && (!isStar pa && ckE a c pa))))
    | _ => false
  | .rev mu o, c, pe => match pe with
    | .Subscript po (.Slice none none (some (.UnaryOp u (.Constant (.int i) _ _) _)) _) _ => decide (u = .USub) && (decide (i = 1) && ckE o c po)
    | _ => false
  | .isI k o, c, pe => match pe with
    | .Call (.Name x _) [po, .Name y _] [] _ => nmB "isinstance" x && (nmB (ikn k) y && (glB c x && (glB c y && (!isStar po && ckE o c po))))
    | _ => false
  | .dict1 k v, c, pe => match pe with
    | .Dict [some pk] [pv] _ => isLocE k && (isCstE v && (ckE k c pk && ckE v c pv))
    | _ => false
  | .bm0 o .clear, c, pe => match pe with
    | .Call (.Attribute po y apos) [] [] pos => nmB "clear" y && (!nullCall po && ((apos.endLine == pos.line) && ckE o c po))
    | _ => false
  | .lenO o, c, pe => match pe with
    | .Call (.Name x _) [po] [] _ => nmB "len" x && (glB c x && (!isStar po && ckE o c po))
    | _ => false
termination_by structural e => e
def ckEs : Es → Ck → List Expr → Bool
  | .nil, _, pes => match pes with
    | [] => true
    | _ => false
  | .cons e r, c, pes => match pes with
    | pe :: rest => !isStar pe && (ckE e c pe && ckEs r c rest)
    | _ => false
  | .star e r, c, pes => match pes with
    | .Starred pe _ :: rest => ckE e c pe && ckEs r c rest
    | _ => false
termination_by structural e => e
def ckKs : Es → Ck → List Keyword → Bool
  | .nil, _, ks => match ks with
    | [] => true
    | _ => false
  | .cons e r, c, ks => match ks with
    | ⟨_, pe, _⟩ :: rest => ckE e c pe && ckKs r c rest
    | _ => false
  | .star _ _, _, _ => false
termination_by structural e => e
def ckO : Es → Ck → Option Expr → Bool
  | .nil, _, o => match o with
    | none => true
    | _ => false
  | .cons e .nil, c, o => match o with
    | some pe => ckE e c pe
    | _ => false
  | _, _, _ => false
termination_by structural e => e
def ckC : Es → Ck → List Expr → Bool
  | .nil, _, o => match o with
    | [] => true
    | _ => false
  | .cons e .nil, c, o => match o with
    | [pe] => ckE e c pe
    | _ => false
  | _, _, _ => false
termination_by structural e => e
def ckI : I → Ck → Expr → Expr → Bool
  | .seq e, c, _, pe => ckE e c pe
  | .range1 a, c, _, pe => match pe with
    | .Call (.Name x _) [pa] [] _ => nmB "range" x && (glB c x && (!isStar pa && ckE a c pa))
    | _ => false
  | .range2 a b, c, _, pe => match pe with
    | .Call (.Name x _) [pa, pb] [] _ => nmB "range" x && (glB c x && (!isStar pa && (!isStar pb && (ckE a c pa && ckE b c pb))))
    | _ => false
  | .enum e, c, tg, pe => match tg with
    | .Tuple _ _ _ => match pe with
      | .Call (.Name x _) [pa] [] _ => nmB "enumerate" x && (glB c x && (!isStar pa && ckE e c pa))
      | _ => false
    | _ => false
  | .zip a b, c, tg, pe => match tg with
    | .Tuple _ _ _ => match pe with
      | .Call (.Name x _) [pa, pb] [] _ => nmB "zip" x && (glB c x && (!isStar pa && (!isStar pb && (ckE a c pa && ckE b c pb))))
      | _ => false
    | _ => false
termination_by structural e => e
def ckT : T → Ck → (Nat → Bool) → Expr → Bool
  | .nm i, c, al, pe => match pe with
    | .Name x _ => sl c i x && (al i && locB c x)
    | _ => false
  | .tup ts, c, al, pe => match pe with
    | .Tuple pes _ _ => pes.all plainTg && (decide (pes.length = lenT ts) && ckTs ts c al pes)
    | _ => false
  | .attr o f, c, al, pe => match pe with
    | .Attribute po y _ => nmB f y && ckE o c po
    | _ => false
  | .sub o i, c, al, pe => match pe with
    | .Subscript po pi_ _ => !isSl pi_ && (ckE o c po && ckE i c pi_)
    | _ => false
termination_by structural e => e
def ckTs : Ts → Ck → (Nat → Bool) → List Expr → Bool
  | .nil, _, _, pes => match pes with
    | [] => true
    | _ => false
  | .cons t r, c, al, pes => match pes with
    | pe :: rest => plainTg pe && (ckT t c al pe && ckTs r c al rest)
    | _ => false
termination_by structural e => e
end
end

/-! ### the context that it fits -/
structure Fit (ad : String → Addr) (P : Prog) (cf : CF) (n : Nat) (c : Ck) (X : Cx) (Wx : WX) : Prop where
  gd : Gd P ad X.K X.mg
  F : ∀ f, FnG ad cf n X.prog X.w X.K X.mg X.base f
  room : Room (2 * n + 1) X.A
  gu : X.A.guards = some []
  un : X.A.units + 66 < cLine
  tk : Takes X Wx
  calm : X.calm = true
  nd : X.N.Nodup
  kind : X.env.scope.kind = .function
  N : X.N = c.N
  sc : X.env.scope = c.sc
  fn : X.fn = c.fn
section
variable {ad : String → Addr} {P : Prog} {cf : CF} {n : Nat} {c : Ck} {X : Cx} {Wx : WX}
theorem Fit.roomG (f : Fit ad P cf n c X Wx) : RoomG n X.A := ⟨f.room.mono (Nat.le_succ _), f.gu⟩
theorem Fit.vis (f : Fit ad P cf n c X Wx) {x : Str} (h : visB c x = true) : Vis X.env.scope x := by
  rw [f.sc]
  simp only [visB, lkB, Bool.or_eq_true, decide_eq_true_eq] at h
  exact h
theorem Fit.gl (f : Fit ad P cf n c X Wx) {x : Str} (h : glB c x = true) : Gl X x := by
  show X.env.scope.names.lookup x = _
  rw [f.sc]
  simpa [glB, lkB] using h
theorem Fit.slot (f : Fit ad P cf n c X Wx) {i : Nat} {x : Str} (h : sl c i x = true) : X.N[i]? = some x := by
  rw [f.N]
  simpa [sl] using h
theorem Fit.loc (f : Fit ad P cf n c X Wx) {x : Str} (h : locB c x = true) : L2.Loc X.env.scope x ∧ (X.fn x = true ∨ X.env.scope.names.lookup x = some .local) := by
  simp only [locB, lkB, Bool.or_eq_true, Bool.and_eq_true, decide_eq_true_eq] at h
  rw [f.sc, f.fn]
  unfold L2.Loc
  rcases h with h | ⟨h1, h2⟩
  · exact ⟨.inl h, .inr h⟩
  · exact ⟨.inr h1, .inl h2⟩
theorem dbg_of {x : Str} (h : dbgB x = true) : (x == ("__debug__" : Str)) = false := by simpa [dbgB] using h
theorem ownP_snd (c : Ck) (own : List Nat) : (ownP c own).map (·.2) = own := by
  unfold ownP
  rw [List.map_map]
  show own.map (fun i => i) = own
  exact List.map_id' own
theorem Fit.blk (f : Fit ad P cf n c X Wx) {scope : Scope} {own : List (Str × Nat)} (ok : BlkOk X.N X.env.scope scope own) (s : Shared) (H : Hp) (C : Addr) (cl : List (Str × Addr)) (fp : List Addr) :
    Fit ad P cf n (c.blk scope) (X.blk s H scope (compEnvC scope cl C X.env) fp) NoX where
  gd := f.gd
  F := f.F
  room := f.room
  gu := f.gu
  un := f.un
  tk := fun u s' ⟨a, B, sI, pins, σ, H, cls, d, e, I, nb, up, sky, na, os, ag, w⟩ => w.elim
  calm := f.calm
  nd := f.nd
  kind := ok.kind
  N := f.N
  sc := by
    show relS scope X.env.scope = relS scope c.sc
    rw [f.sc]
  fn := rfl
theorem Fit.blkOk (f : Fit ad P cf n c X Wx) {scope : Scope} {own : List Nat} (h : ckComp c scope own = true) : BlkOk X.N X.env.scope scope (ownP c own) := by
  rw [f.N, f.sc]
  exact blkOk_by h
theorem plain_true {pe : Expr} (h : plainT pe = true) (env : PySem.Env) (whole : Sem Value) : isTrue pe env whole = (do let v ← whole; standAt pe.pos; holding [v] (truthy v)) := by
  cases pe with
  | UnaryOp o x p => cases o <;> first | rfl | cases h
  | BoolOp _ _ _ => cases h
  | IfExp _ _ _ _ => cases h
  | Compare _ _ _ _ => cases h
  | _ => rfl
abbrev PB (X : Cx) (ad : String → Addr) (m : Env → M LV) (Wx : WX) (pe : Expr) : Prop := PE X pe (tE X.K ad m Wx) ∧ PT X pe (tT X.K ad m Wx)
theorem pb_val {e : E} {pe : Expr} (hp : plainT pe = true) (h : PE X pe (tE X.K ad (evE P cf e) Wx)) : PB X ad (evE P cf e) Wx pe := ⟨h, t_val h fun whole => plain_true hp X.env whole⟩
end
end Mn

set_option Elab.async false
set_option linter.all false
set_option maxRecDepth 100000
set_option maxHeartbeats 4000000
/-! Mini, part 13: the check of expressions is right. -/
namespace Mn
open PySem PySem.Spec PyProof.Rows L2
section
variable {ad : String → Addr} {P : Prog} {cf : CF} {n : Nat}
theorem nm_of {f : String} {x : Str} (h : nmB f x = true) : x = Str.ofString f := by simpa [nmB] using h
theorem not_t {b : Bool} (h : (!b) = true) : b = false := by simpa using h
theorem rest_e {op : BoolOp} {pb : Expr} {rest : List Expr} {pos : Pos} {X : Cx} {t : TE} (h : PE X (restB op pb rest pos) t) : PE X (.BoolOp op (pb :: rest) pos) t := by
  cases rest with
  | nil => exact pe_one h
  | cons a r => exact h
theorem rest_t {op : BoolOp} {pb : Expr} {rest : List Expr} {pos : Pos} {X : Cx} {e : E} {Wx : WX} (h : PT X (restB op pb rest pos) (tT X.K ad (evE P cf e) Wx)) : PT X (.BoolOp op (pb :: rest) pos) (tT X.K ad (evE P cf e) Wx) := by
  cases rest with
  | nil => exact t_one h
  | cons a r => exact h
mutual
theorem sndE : ∀ (e : E) (c : Ck) (pe : Expr), ckE P e c pe = true → ∀ (X : Cx) (Wx : WX), Fit ad P cf n c X Wx → PB X ad (evE P cf e) Wx pe
  | .loc i, c, pe, h, X, Wx, f => by
    unfold ckE at h
    split at h
    · simp only [Bool.and_eq_true] at h
      obtain ⟨h1, h2, h3, h4⟩ := h
      exact pb_val rfl (e_loc (f.slot h1) (f.vis h2) (dbg_of h3) (not_t h4))
    · cases h
  | .cst v, c, pe, h, X, Wx, f => by
    unfold ckE at h
    split at h
    · exact pb_val rfl (e_cst h)
    · cases h
  | .glo g, c, pe, h, X, Wx, f => by
    unfold ckE at h
    split at h
    · simp only [Bool.and_eq_true] at h
      obtain ⟨h1, h2, h3, h4⟩ := h
      have e1 := nm_of h1
      subst e1
      exact pb_val rfl (e_glo (f.gl h2) (f.gd.glob g) (dbg_of h3))
    · cases h
  | .bin op a b, c, pe, h, X, Wx, f => by
    unfold ckE at h
    split at h
    · simp only [Bool.and_eq_true, decide_eq_true_eq] at h
      obtain ⟨h1, h2, h3⟩ := h
      subst h1
      exact pb_val rfl (e_bin (sndE a c _ h2 X Wx f).1 (sndE b c _ h3 X Wx f).1)
    · cases h
  | .neg a, c, pe, h, X, Wx, f => by
    unfold ckE at h
    split at h
    · simp only [Bool.and_eq_true, decide_eq_true_eq] at h
      obtain ⟨h1, h2⟩ := h
      subst h1
      exact pb_val rfl (e_neg (sndE a c _ h2 X Wx f).1)
    · cases h
  | .not a, c, pe, h, X, Wx, f => by
    unfold ckE at h
    split at h
    · simp only [Bool.and_eq_true, decide_eq_true_eq] at h
      obtain ⟨h1, h2⟩ := h
      subst h1
      have q := sndE a c _ h2 X Wx f
      exact ⟨e_not q.1, t_not q.2⟩
    · cases h
  | .and a b, c, pe, h, X, Wx, f => by
    unfold ckE at h
    split at h
    · simp only [Bool.and_eq_true, decide_eq_true_eq] at h
      obtain ⟨h1, h2, h3⟩ := h
      subst h1
      have q := sndE a c _ h2 X Wx f
      have r := sndE b c _ h3 X Wx f
      exact ⟨e_and q.1 (rest_e r.1), t_and q.2 (rest_t r.2)⟩
    · cases h
  | .or a b, c, pe, h, X, Wx, f => by
    unfold ckE at h
    split at h
    · simp only [Bool.and_eq_true, decide_eq_true_eq] at h
      obtain ⟨h1, h2, h3⟩ := h
      subst h1
      have q := sndE a c _ h2 X Wx f
      have r := sndE b c _ h3 X Wx f
      exact ⟨e_or q.1 (rest_e r.1), t_or q.2 (rest_t r.2)⟩
    · cases h
  | .cmp op a b, c, pe, h, X, Wx, f => by
    unfold ckE at h
    split at h
    · simp only [Bool.and_eq_true, decide_eq_true_eq] at h
      obtain ⟨h1, h2, h3, h4⟩ := h
      subst h1
      have q := sndE a c _ h3 X Wx f
      have r := sndE b c _ h4 X Wx f
      exact ⟨e_cmp f.un (not_t h2) q.1 r.1, t_cmp f.un (not_t h2) q.1 r.1⟩
    · cases h
  | .chain op op' a b d, c, pe, h, X, Wx, f => by
    unfold ckE at h
    split at h
    · simp only [Bool.and_eq_true, decide_eq_true_eq] at h
      obtain ⟨h1, h2, h3, h4, h5, h6⟩ := h
      subst h1
      subst h2
      have q := sndE a c _ h4 X Wx f
      have r := sndE b c _ h5 X Wx f
      have s := sndE d c _ h6 X Wx f
      exact ⟨e_chain f.un q.1 r.1 s.1 (not_t h3), t_chain f.un q.1 r.1 s.1 (not_t h3)⟩
    · cases h
  | .reprEq a b, c, pe, h, X, Wx, f => by
    unfold ckE at h
    split at h
    · simp only [Bool.and_eq_true, decide_eq_true_eq] at h
      obtain ⟨h1, h2, h3, h4, h5, h6, h7, h8⟩ := h
      subst h1
      have e1 := nm_of h2
      have e2 := nm_of h3
      subst e1
      subst e2
      have q := sndE a c _ h7 X Wx f
      have r := sndE b c _ h8 X Wx f
      exact ⟨e_repr f.gd f.gu f.un (f.gl h4) (not_t h5) (not_t h6) q.1 r.1, t_repr f.gd f.gu f.un (f.gl h4) (not_t h5) (not_t h6) q.1 r.1⟩
    · cases h
  | .ite t a b, c, pe, h, X, Wx, f => by
    unfold ckE at h
    split at h
    · simp only [Bool.and_eq_true] at h
      obtain ⟨h1, h2, h3⟩ := h
      have q := sndE t c _ h1 X Wx f
      have r := sndE a c _ h2 X Wx f
      have s := sndE b c _ h3 X Wx f
      exact ⟨e_ite q.2 r.1 s.1, t_ite q.2 r.2 s.2⟩
    · cases h
  | .call g es ks kes, c, pe, h, X, Wx, f => by
    unfold ckE at h
    split at h
    · simp only [Bool.and_eq_true] at h
      obtain ⟨h1, h2, h3, h4, h5, h6, h7, h8⟩ := h
      have e1 := nm_of h1
      subst e1
      exact pb_val rfl (e_call f.gd f.F f.roomG f.tk (by simpa using h4) (f.gl h2) (dbg_of h3) h5 (by simpa [kwsB] using h6) (sndEs es c _ h7 X Wx f) (sndKs kes c _ h8 X Wx f))
    · cases h
  | .make g es ks kes, c, pe, h, X, Wx, f => by
    unfold ckE at h
    split at h
    · simp only [Bool.and_eq_true] at h
      obtain ⟨h1, h2, h3, h4, h5, h6, h7, h8⟩ := h
      have e1 := nm_of h1
      subst e1
      exact pb_val rfl (e_make h4 f.gd f.F f.room f.gu f.tk (f.gl h2) (dbg_of h3) h5 (by simpa [kwsB] using h6) (sndEs es c _ h7 X Wx f) (sndKs kes c _ h8 X Wx f))
    · cases h
  | .bcall g es, c, pe, h, X, Wx, f => by
    unfold ckE at h
    split at h
    · simp only [Bool.and_eq_true] at h
      obtain ⟨h1, h2, h3, h4⟩ := h
      have e1 := nm_of h1
      subst e1
      exact pb_val rfl (e_bcall f.gd f.calm (f.gl h2) (not_t h3) (sndEs es c _ h4 X Wx f))
    · cases h
  | .meth o m es ks kes, c, pe, h, X, Wx, f => by
    unfold ckE at h
    split at h
    · simp only [Bool.and_eq_true, decide_eq_true_eq] at h
      obtain ⟨h1, h2, h3, h4, h5, h6, h7, h8, h9, h10⟩ := h
      have e1 := nm_of h1
      subst e1
      exact pb_val rfl (e_meth f.gd f.F f.roomG f.tk (not_t h2) h3 (not_t h4) h5 h6 (by simpa [kwsB] using h7) (sndE o c _ h8 X Wx f).1 (sndEs es c _ h9 X Wx f) (sndKs kes c _ h10 X Wx f))
    · cases h
  | .bmeth o m es, c, pe, h, X, Wx, f => by
    unfold ckE at h
    split at h
    · simp only [Bool.and_eq_true] at h
      obtain ⟨h1, h2, h3, h4, h5, h6⟩ := h
      have ho := (sndE o c _ h5 X Wx f).1
      cases es with
      | nil => unfold ckEs at h6; cases h6
      | star e r => unfold ckEs at h6; split at h6 <;> simp_all [isStar]
      | cons e r =>
        unfold ckEs at h6
        dsimp only at h6
        simp only [Bool.and_eq_true] at h6
        obtain ⟨g1, g2, g3⟩ := h6
        cases r with
        | cons e' r' => unfold ckEs at g3; cases g3
        | star e' r' => unfold ckEs at g3; cases g3
        | nil =>
          have he := (sndE e c _ g2 X Wx f).1
          cases m with
          | append =>
            have e1 := nm_of h1
            subst e1
            exact pb_val rfl (e_append (not_t h2) h3 (not_t h4) ho he)
          | join =>
            have e1 := nm_of h1
            subst e1
            exact pb_val rfl (e_join (not_t h2) h3 (not_t h4) ho he)
    · cases h
  | .attr o g, c, pe, h, X, Wx, f => by
    unfold ckE at h
    split at h
    · simp only [Bool.and_eq_true] at h
      obtain ⟨h1, h2, h3⟩ := h
      have e1 := nm_of h1
      subst e1
      exact pb_val rfl (e_attr f.gd (not_t h2) (sndE o c _ h3 X Wx f).1)
    · cases h
  | .sub o i, c, pe, h, X, Wx, f => by
    unfold ckE at h
    split at h
    · simp only [Bool.and_eq_true] at h
      obtain ⟨h1, h2, h3⟩ := h
      exact pb_val rfl (e_sub f.un (sndE o c _ h2 X Wx f).1 (sndE i c _ h3 X Wx f).1 (plain_ix (not_t h1)))
    · cases h
  | .slice o lo hi, c, pe, h, X, Wx, f => by
    unfold ckE at h
    split at h
    · simp only [Bool.and_eq_true] at h
      obtain ⟨h1, h2, h3⟩ := h
      exact pb_val rfl (e_slice (sndE o c _ h1 X Wx f).1 (sndO lo c _ h2 X Wx f) (sndO hi c _ h3 X Wx f))
    · cases h
  | .tup es, c, pe, h, X, Wx, f => by
    unfold ckE at h
    split at h
    · exact pb_val rfl (e_tup (sndEs es c _ h X Wx f))
    · cases h
  | .list mu es, c, pe, h, X, Wx, f => by
    unfold ckE at h
    split at h
    · exact pb_val rfl (e_list (sndEs es c _ h X Wx f))
    · cases h
  | .comp mu own elt tg it cond, c, pe, h, X, Wx, f => by
    unfold ckE at h
    split at h
    · simp only [Bool.and_eq_true] at h
      obtain ⟨h1, h2, h3, h4, h5, h6⟩ := h
      have ok := f.blkOk h1
      have q := fun (pos : Pos) => e_comp (pos := pos) (mu := mu) (elt := elt) (tg := tg) (it := it) (cond := cond) (P := P) (cf := cf) (ad := ad) (own := ownP c own) f.calm f.nd ok h2 (sndI it c _ _ h3 X Wx f) fun s H C cl fp => by
        have fb := f.blk ok s H C cl fp
        refine ⟨?_, sndC cond _ _ h5 _ _ fb, (sndE elt _ _ h6 _ _ fb).1⟩
        have zk := Zok.comp ((ownP c own).map (·.2))
        have ht := sndT tg (c.blk _) (fun i => own.contains i) _ h4 _ _ fb
        rw [ownP_snd] at zk ⊢
        exact ht _ zk
      simp only [ownP_snd] at q
      exact pb_val rfl (q _)
    · cases h
  | .frz e, c, pe, h, X, Wx, f => by
    unfold ckE at h
    simp only [Bool.and_eq_true] at h
    obtain ⟨h1, h2⟩ := h
    exact pb_val h1 (e_frz (sndE e c _ h2 X Wx f).1)
  | .never, c, pe, h, X, Wx, f => by
    refine ⟨⟨fun pins s σ H Q I ⟨W, env, h, er, rl, p⟩ => ?_⟩, ⟨fun pins s σ H Q I ⟨W, env, h, er, rl, p⟩ => ?_⟩⟩
    · rw [evE] at p
      exact p.elim
    · rw [evE, bind_bad rfl] at p
      exact p.elim
  | .ins o i v, c, pe, h, X, Wx, f => by
    unfold ckE at h
    split at h
    · simp only [Bool.and_eq_true] at h
      obtain ⟨h1, h2, h3, h4, h5, h6, h7, h8⟩ := h
      have e1 := nm_of h1
      subst e1
      exact pb_val rfl (e_ins (not_t h2) h3 (not_t h4) (not_t h5) (sndE o c _ h6 X Wx f).1 (sndE i c _ h7 X Wx f).1 (sndE v c _ h8 X Wx f).1)
    · cases h
  | .lrng mu a, c, pe, h, X, Wx, f => by
    unfold ckE at h
    split at h
    · simp only [Bool.and_eq_true] at h
      obtain ⟨h1, h2, h3, h4, h5, h6⟩ := h
      have e1 := nm_of h1
      subst e1
      have e2 := nm_of h2
      subst e2
      exact pb_val rfl (e_lrng f.gd f.calm (f.gl h3) (f.gl h4) (not_t h5) (sndE a c _ h6 X Wx f).1)
    · cases h
  | .rev mu o, c, pe, h, X, Wx, f => by
    unfold ckE at h
    split at h
    · simp only [Bool.and_eq_true, decide_eq_true_eq] at h
      obtain ⟨h1, h2, h3⟩ := h
      subst h1
      subst h2
      exact pb_val rfl (e_rev (sndE o c _ h3 X Wx f).1)
    · cases h
  | .isI k o, c, pe, h, X, Wx, f => by
    unfold ckE at h
    split at h
    · simp only [Bool.and_eq_true] at h
      obtain ⟨h1, h2, h3, h4, h5, h6⟩ := h
      have e1 := nm_of h1
      subst e1
      have e2 := nm_of h2
      subst e2
      exact pb_val rfl (e_isI f.gd (f.gl h3) (f.gl h4) (not_t h5) (sndE o c _ h6 X Wx f).1)
    · cases h
  | .dict1 k v, c, pe, h, X, Wx, f => by
    unfold ckE at h
    split at h
    · simp only [Bool.and_eq_true] at h
      obtain ⟨h1, h2, h3, h4⟩ := h
      cases k with
      | loc i =>
        cases v with
        | cst w =>
          refine pb_val rfl (e_dict1 (fun Wx' => ?_) (fun Wx' => ?_))
          · unfold ckE at h3
            split at h3
            · simp only [Bool.and_eq_true] at h3
              obtain ⟨g1, g2, g3, g4⟩ := h3
              exact e_loc (f.slot g1) (f.vis g2) (dbg_of g3) (not_t g4)
            · cases h3
          · unfold ckE at h4
            split at h4
            · exact e_cst h4
            · cases h4
        | _ => cases h2
      | _ => cases h1
    · cases h
  | .bm0 o .clear, c, pe, h, X, Wx, f => by
    unfold ckE at h
    split at h
    · simp only [Bool.and_eq_true] at h
      obtain ⟨h1, h2, h3, h4⟩ := h
      have e1 := nm_of h1
      subst e1
      exact pb_val rfl (e_clear (not_t h2) h3 (sndE o c _ h4 X Wx f).1)
    · cases h
  | .lenO o, c, pe, h, X, Wx, f => by
    unfold ckE at h
    split at h
    · simp only [Bool.and_eq_true] at h
      obtain ⟨h1, h2, h3, h4⟩ := h
      have e1 := nm_of h1
      subst e1
      exact pb_val rfl (e_lenO f.gd f.F f.room f.gu f.tk (f.gl h2) (not_t h3) (sndE o c _ h4 X Wx f).1)
    · cases h
theorem sndEs : ∀ (es : Es) (c : Ck) (pes : List Expr), ckEs P es c pes = true → ∀ (X : Cx) (Wx : WX), Fit ad P cf n c X Wx → PA X pes (tAr X.K ad (evs P cf es) Wx)
  | .nil, c, pes, h, X, Wx, f => by
    unfold ckEs at h
    split at h
    · exact a_nil
    · cases h
  | .cons e r, c, pes, h, X, Wx, f => by
    unfold ckEs at h
    split at h
    · simp only [Bool.and_eq_true] at h
      obtain ⟨h1, h2, h3⟩ := h
      exact a_cons (not_t h1) (sndE e c _ h2 X Wx f).1 (sndEs r c _ h3 X Wx f)
    · cases h
  | .star e r, c, pes, h, X, Wx, f => by
    unfold ckEs at h
    split at h
    · simp only [Bool.and_eq_true] at h
      obtain ⟨h2, h3⟩ := h
      exact a_star (sndE e c _ h2 X Wx f).1 (sndEs r c _ h3 X Wx f)
    · cases h
theorem sndKs : ∀ (es : Es) (c : Ck) (kws : List Keyword), ckKs P es c kws = true → ∀ (X : Cx) (Wx : WX), Fit ad P cf n c X Wx → PK X kws (tAr X.K ad (evs P cf es) Wx)
  | .nil, c, pes, h, X, Wx, f => by
    unfold ckKs at h
    split at h
    · exact k_nil
    · cases h
  | .cons e r, c, pes, h, X, Wx, f => by
    unfold ckKs at h
    split at h
    · simp only [Bool.and_eq_true] at h
      obtain ⟨h2, h3⟩ := h
      exact k_cons (sndE e c _ h2 X Wx f).1 (sndKs r c _ h3 X Wx f)
    · cases h
  | .star e r, c, pes, h, X, Wx, f => by
    unfold ckKs at h
    cases h
theorem sndO : ∀ (es : Es) (c : Ck) (o : Option Expr), ckO P es c o = true → ∀ (X : Cx) (Wx : WX), Fit ad P cf n c X Wx → PO X o (tPo X.K ad (evs P cf es) Wx)
  | .nil, c, o, h, X, Wx, f => by
    unfold ckO at h
    split at h
    · exact po_nil
    · cases h
  | .cons e .nil, c, o, h, X, Wx, f => by
    unfold ckO at h
    split at h
    · exact po_one (sndE e c _ h X Wx f).1
    · cases h
  | .cons e (.cons _ _), c, o, h, X, Wx, f => by
    simp [ckO] at h
  | .cons e (.star _ _), c, o, h, X, Wx, f => by
    simp [ckO] at h
  | .star e r, c, o, h, X, Wx, f => by
    simp [ckO] at h
theorem sndC : ∀ (es : Es) (c : Ck) (o : List Expr), ckC P es c o = true → ∀ (X : Cx) (Wx : WX), Fit ad P cf n c X Wx → PTs X o (tTc X.K ad (evConds P cf es) Wx)
  | .nil, c, o, h, X, Wx, f => by
    unfold ckC at h
    split at h
    · exact c_nil
    · cases h
  | .cons e .nil, c, o, h, X, Wx, f => by
    unfold ckC at h
    split at h
    · exact c_one (sndE e c _ h X Wx f).2
    · cases h
  | .cons e (.cons _ _), c, o, h, X, Wx, f => by
    simp [ckC] at h
  | .cons e (.star _ _), c, o, h, X, Wx, f => by
    simp [ckC] at h
  | .star e r, c, o, h, X, Wx, f => by
    simp [ckC] at h
theorem sndI : ∀ (it : I) (c : Ck) (tg pe : Expr), ckI P it c tg pe = true → ∀ (X : Cx) (Wx : WX), Fit ad P cf n c X Wx → PI X tg pe (tI X.K ad (evI P cf it) Wx)
  | .seq e, c, tg, pe, h, X, Wx, f => by
    unfold ckI at h
    exact i_seq (sndE e c _ h X Wx f).1
  | .range1 a, c, tg, pe, h, X, Wx, f => by
    unfold ckI at h
    split at h
    · simp only [Bool.and_eq_true] at h
      obtain ⟨h1, h2, h3, h4⟩ := h
      have e1 := nm_of h1
      subst e1
      exact i_range1 f.gd (f.gl h2) (not_t h3) (sndE a c _ h4 X Wx f).1
    · cases h
  | .range2 a b, c, tg, pe, h, X, Wx, f => by
    unfold ckI at h
    split at h
    · simp only [Bool.and_eq_true] at h
      obtain ⟨h1, h2, h3, h4, h5, h6⟩ := h
      have e1 := nm_of h1
      subst e1
      exact i_range2 f.gd (f.gl h2) (not_t h3) (not_t h4) (sndE a c _ h5 X Wx f).1 (sndE b c _ h6 X Wx f).1
    · cases h
  | .enum e, c, tg, pe, h, X, Wx, f => by
    unfold ckI at h
    split at h
    · split at h
      · simp only [Bool.and_eq_true] at h
        obtain ⟨h1, h2, h3, h4⟩ := h
        have e1 := nm_of h1
        subst e1
        exact i_enum f.gd (f.gl h2) (not_t h3) (sndE e c _ h4 X Wx f).1
      · cases h
    · cases h
  | .zip a b, c, tg, pe, h, X, Wx, f => by
    unfold ckI at h
    split at h
    · split at h
      · simp only [Bool.and_eq_true] at h
        obtain ⟨h1, h2, h3, h4, h5, h6⟩ := h
        have e1 := nm_of h1
        subst e1
        exact i_zip f.gd (f.gl h2) (not_t h3) (not_t h4) (sndE a c _ h5 X Wx f).1 (sndE b c _ h6 X Wx f).1
      · cases h
    · cases h
theorem sndT : ∀ (t : T) (c : Ck) (al : Nat → Bool) (pe : Expr), ckT P t c al pe = true → ∀ (X : Cx) (Wx : WX), Fit ad P cf n c X Wx → ∀ (Z : St → St → Prop), Zok Wx Z al → PG X pe (gT X.K ad (bindT P cf t) Z Wx)
  | .nm i, c, al, pe, h, X, Wx, f, Z, zk => by
    unfold ckT at h
    split at h
    · simp only [Bool.and_eq_true] at h
      obtain ⟨h1, h2, h3⟩ := h
      obtain ⟨l1, l2⟩ := f.loc h3
      exact g_name zk h2 f.nd (f.slot h1) l1 l2
    · cases h
  | .tup ts, c, al, pe, h, X, Wx, f, Z, zk => by
    unfold ckT at h
    split at h
    · simp only [Bool.and_eq_true, decide_eq_true_eq] at h
      obtain ⟨h1, h2, h3⟩ := h
      exact g_tup zk f.calm h1 h2 (sndTs ts c al _ h3 X Wx f Z zk)
    · cases h
  | .attr o g, c, al, pe, h, X, Wx, f, Z, zk => by
    unfold ckT at h
    split at h
    · simp only [Bool.and_eq_true] at h
      obtain ⟨h1, h2⟩ := h
      have e1 := nm_of h1
      subst e1
      exact g_attr zk f.gd (sndE o c _ h2 X Wx f).1
    · cases h
  | .sub o i, c, al, pe, h, X, Wx, f, Z, zk => by
    unfold ckT at h
    split at h
    · simp only [Bool.and_eq_true] at h
      obtain ⟨h1, h2, h3⟩ := h
      exact g_sub f.un zk (not_t h1) (sndE o c _ h2 X Wx f).1 (sndE i c _ h3 X Wx f).1
    · cases h
theorem sndTs : ∀ (ts : Ts) (c : Ck) (al : Nat → Bool) (pes : List Expr), ckTs P ts c al pes = true → ∀ (X : Cx) (Wx : WX), Fit ad P cf n c X Wx → ∀ (Z : St → St → Prop), Zok Wx Z al → PGs X pes (gTs X.K ad (bindTs P cf ts) Z Wx)
  | .nil, c, al, pes, h, X, Wx, f, Z, zk => by
    unfold ckTs at h
    split at h
    · exact gs_nil zk
    · cases h
  | .cons t r, c, al, pes, h, X, Wx, f, Z, zk => by
    unfold ckTs at h
    split at h
    · simp only [Bool.and_eq_true] at h
      obtain ⟨h1, h2, h3⟩ := h
      exact gs_cons zk h1 (sndT t c al _ h2 X Wx f Z zk) (sndTs r c al _ h3 X Wx f Z zk)
    · cases h
end
end
end Mn

set_option Elab.async false
set_option linter.all false
set_option maxRecDepth 100000
set_option maxHeartbeats 4000000
/-! Mini, part 14: statements: the check, and that it is right. -/
namespace Mn
open PySem PySem.Spec PyProof.Rows L2
/-! ### stores out of turn -/
def tgName (sc : Scope) (line : Nat) : Expr → Option Str
  | .Name id pos => if (sc.names.lookup id == some .local && pos.line == line) = true then some id else none
  | _ => none
def tgNames (sc : Scope) (ts : List Expr) : List Str := ts.filterMap (tgName sc ((ts.head?.map (·.pos.line)).getD 0))
def badNames (sc : Scope) (ts : List Expr) : Bool := (tgNames sc ts).length != ts.length || (tgNames sc ts).eraseDups.length != (tgNames sc ts).length
def swNone2 (sc : Scope) (ts vs : List Expr) : Bool := (!(ts.length == 2 || ts.length == 3) || vs.length != ts.length) || (vs.any isStar || (badNames sc ts || vs.all (foldedForSure 8)))
def swNone (sc : Scope) (pt pe : Expr) : Bool := match pt, pe with
  | .Tuple ts _ _, .Tuple vs _ _ => swNone2 sc ts vs
  | .List ts _, .Tuple vs _ _ => swNone2 sc ts vs
  | _, _ => true
def swSome (sc : Scope) (ts vs : List Expr) : Bool := (ts.length == 2 || ts.length == 3) && ((vs.length == ts.length) && (!vs.any isStar && (!badNames sc ts && (!vs.all (foldedForSure 8) && !vs.all (constantsAlone 8)))))
theorem blk_fn {env : PySem.Env} (hk : env.scope.kind = .function) : env.blockKind = .function := by unfold Env.blockKind; rw [hk]; rfl
/-- what swappedStores says of two rows -/
def swV (sc : Scope) (f : Expr → Bool) (g : Expr → Option Str) (ts vs : List Expr) : Sem (Option (List Str)) :=
  if (!(ts.length == 2 || ts.length == 3) || vs.length != ts.length || ScopeKind.function != ScopeKind.function) = true then pure none
  else if vs.any f = true then pure none
  else if ((ts.filterMap g).length != ts.length || (ts.filterMap g).eraseDups.length != (ts.filterMap g).length) = true then pure none
  else if vs.all (foldedForSure 8) = true then pure none
  else if vs.all (constantsAlone 8) = true then (do
    unsupported "assign.tuple-of-constant-expressions:order-of-the-stores"
    pure (some (ts.filterMap g)))
  else pure (some (ts.filterMap g))
theorem swV_none {sc : Scope} {ts vs : List Expr} (h : swNone2 sc ts vs = true) : swV sc isStar (tgName sc ((ts.head?.map (·.pos.line)).getD 0)) ts vs = pure none := by
  unfold swV
  simp only [swNone2, Bool.or_eq_true] at h
  by_cases c1 : (!(ts.length == 2 || ts.length == 3) || vs.length != ts.length || ScopeKind.function != ScopeKind.function) = true
  · rw [if_pos c1]
  · rw [if_neg c1]
    have h' : vs.any isStar = true ∨ badNames sc ts = true ∨ vs.all (foldedForSure 8) = true := by
      rcases h with h | h
      · exact absurd (by rw [Bool.or_eq_true, Bool.or_eq_true]; exact .inl h) c1
      · exact h
    by_cases c2 : vs.any isStar = true
    · rw [if_pos c2]
    · rw [if_neg c2]
      by_cases c3 : badNames sc ts = true
      · exact if_pos c3
      · refine (if_neg c3).trans ?_
        rcases h' with z | z | z
        · exact absurd z c2
        · exact absurd z c3
        · exact if_pos z
theorem swV_some {sc : Scope} {ts vs : List Expr} (h : swSome sc ts vs = true) : swV sc isStar (tgName sc ((ts.head?.map (·.pos.line)).getD 0)) ts vs = pure (some (tgNames sc ts)) := by
  unfold swV
  simp only [swSome, Bool.and_eq_true] at h
  obtain ⟨h1, h2, h3, h4, h5, h6⟩ := h
  rw [if_neg (by
    rw [h1, show (vs.length != ts.length) = false by simpa [bne] using h2]
    decide)]
  rw [if_neg (by simpa using h3)]
  refine (if_neg (show ¬ badNames sc ts = true by simpa using h4)).trans ?_
  rw [if_neg (by rw [not_t h5]; exact Bool.false_ne_true), if_neg (by rw [not_t h6]; exact Bool.false_ne_true)]
  rfl
theorem sw_tt {ts vs : List Expr} {env : PySem.Env} {k1 k2 : Nat} {p1 p2 : Pos} (hk : env.scope.kind = .function) : swappedStores [.Tuple ts k1 p1] (.Tuple vs k2 p2) env = swV env.scope isStar (tgName env.scope ((ts.head?.map (·.pos.line)).getD 0)) ts vs := by
  have key : ∀ (f : Expr → Bool) (g : Expr → Option Str), f = isStar → g = tgName env.scope ((ts.head?.map (·.pos.line)).getD 0) → swV env.scope f g ts vs = swV env.scope isStar (tgName env.scope ((ts.head?.map (·.pos.line)).getD 0)) ts vs := fun f g e1 e2 => by rw [e1, e2]
  unfold swappedStores
  simp only [blk_fn hk]
  refine Eq.trans (b := swV env.scope _ _ ts vs) rfl (key _ _ ?_ ?_)
  · funext e
    cases e <;> rfl
  · funext e
    cases e <;> rfl
theorem sw_lt {ts vs : List Expr} {env : PySem.Env} {k2 : Nat} {p1 p2 : Pos} (hk : env.scope.kind = .function) : swappedStores [.List ts p1] (.Tuple vs k2 p2) env = swV env.scope isStar (tgName env.scope ((ts.head?.map (·.pos.line)).getD 0)) ts vs := by
  have key : ∀ (f : Expr → Bool) (g : Expr → Option Str), f = isStar → g = tgName env.scope ((ts.head?.map (·.pos.line)).getD 0) → swV env.scope f g ts vs = swV env.scope isStar (tgName env.scope ((ts.head?.map (·.pos.line)).getD 0)) ts vs := fun f g e1 e2 => by rw [e1, e2]
  unfold swappedStores
  simp only [blk_fn hk]
  refine Eq.trans (b := swV env.scope _ _ ts vs) rfl (key _ _ ?_ ?_)
  · funext e
    cases e <;> rfl
  · funext e
    cases e <;> rfl
theorem sw_none {pt pe : Expr} {env : PySem.Env} (hk : env.scope.kind = .function) (h : swNone env.scope pt pe = true) : swappedStores [pt] pe env = pure none := by
  unfold swNone at h
  split at h
  · rw [sw_tt hk, swV_none h]
  · rw [sw_lt hk, swV_none h]
  · rename_i n1 n2
    unfold swappedStores
    cases pt <;> first
      | rfl
      | (cases pe <;> first
          | rfl
          | exact absurd rfl (n1 _ _ _ _ _ _ rfl)
          | exact absurd rfl (n2 _ _ _ _ _ rfl)
          | (exfalso; first | exact n1 _ _ _ _ _ _ rfl rfl | exact n2 _ _ _ _ _ rfl rfl))
end Mn

set_option Elab.async false
set_option linter.all false
set_option maxRecDepth 100000
set_option maxHeartbeats 4000000
/-! Mini, part 15: statements: the check, and that it is right. -/
namespace Mn
open PySem PySem.Spec PyProof.Rows L2
section
variable {X : Cx} {ad : String → Addr} {P : Prog} {cf : CF} {Wx : WX} {al : Nat → Bool}
/-! ### more stores -/
theorem frz_step {α β : Type} {R : Wd → α → β → Prop} {K : PySem.W.Frag} {W : Wd} {h : Hh} {H : Hp} {σ : St} {Q : β → Hp → Prop} {k : LV → M α} {v : LV} {x : V} (rl : Rel K ad W h H) (qa : VR K ad W v x)
    (p : Post K ad R Wx W σ Q ((do let y ← frzV DEEP v; k y) h)) : ∃ y h2 W2, W.le W2 ∧ Rel K ad W2 h2 H ∧ VR K ad W2 y x ∧ Post K ad R Wx W2 σ Q (k y h2) := by
  have z := frz_rel (ad := ad) DEEP v W h H x rl qa
  cases e1 : frzV DEEP v h with
  | bad => rw [bind_bad e1] at p; exact p.elim
  | exc y h2 => rw [e1] at z; exact z.elim
  | ok w h2 =>
    rw [e1] at z
    rw [bind_ok e1] at p
    obtain ⟨W2, f, rl2, q⟩ := z
    exact ⟨w, h2, W2, f.le, rl2, q, Post.mono f.le p⟩
theorem s_setF (zk : Zok Wx (Stab Wx) al) {i : Nat} {y : Str} {py : Pos} {mu : Bool} {own : List (Str × Nat)} {elt : E} {tg : T} {it : I} {cond : Es} {pelt ptg piter : Expr} {pifs : List Expr} {scope : Scope} {pos spos : Pos} (hk : X.env.scope.kind = .function)
    (ha : al i = true) (hy : X.N[i]? = some y) (hx : L2.Loc X.env.scope y) (hf : X.fn y = true ∨ X.env.scope.names.lookup y = some .local)
    (hc : X.calm = true) (hN : X.N.Nodup) (ok : BlkOk X.N X.env.scope scope own) (hs : noSet piter = true)
    (hi : PI X ptg piter (tI X.K ad (evI P cf it) Wx))
    (hb : ∀ (s : Shared) (H : Hp) (C : Addr) (cl : List (Str × Addr)) (fp : List Addr), PG (X.blk s H scope (compEnvC scope cl C X.env) fp) ptg (gT X.K ad (bindT P cf tg) (fun a b => wipe b (own.map (·.2)) = wipe a (own.map (·.2))) NoX) ∧
      PTs (X.blk s H scope (compEnvC scope cl C X.env) fp) pifs (tTc X.K ad (evConds P cf cond) NoX) ∧ PE (X.blk s H scope (compEnvC scope cl C X.env) fp) pelt (tE X.K ad (evE P cf elt) NoX)) :
    PS X (.Assign [.Name y py] (.ListComp pelt [⟨ptg, piter, pifs, 0⟩] scope pos) spos) (tS X.K ad (exS P cf (.asg (.nm i) (.frz (.comp mu (own.map (·.2)) elt tg it cond)))) Wx) := by
  cases hw : swC scope X.env.scope y py pos with
  | true =>
    have hl : X.env.scope.names.lookup y = some .local := by
      simp only [swC, Bool.and_eq_true, beq_iff_eq] at hw
      exact hw.1.1
    refine psI (ps_setLc hc hN hy hl ((sw_comp hk).trans (by rw [hw])) hi ok (fun s H C cl fp => (hb s H C cl fp).1) (fun s H C cl fp => (hb s H C cl fp).2.1) (fun s H C cl fp => (hb s H C cl fp).2.2) (folded_no hs)) ?_
    intro D σ H z
    refine comp_read (mu := mu) σ H _ ?_
    obtain ⟨W, env, h, er, rl, p⟩ := z
    rw [exS, evE] at p
    simp only [bind_assoc'] at p
    refine arg1_e er rl p fun W1 h1 H1 v x l1 rl1 qa p1 => ?_
    obtain ⟨w, h2, W2, l2, rl2, qb, p2⟩ := frz_step rl1 qa p1
    rw [bindT, pure_bind'] at p2
    exact QD.nx_of (p2.moveF (zk.st _ _ (zk.set i σ (some x) ha))) ((er.mono X.K ad (l1.trans l2)).set X.K ad qb i) rl2
  | false =>
    refine psI (ps_asg (e_frz (e_comp (mu := mu) hc hN ok hs hi hb)) (g_name (ad := ad) zk (P := P) (cf := cf) ha hN hy hx hf) ((sw_comp (l := spos.line) hk).trans (by rw [hw])) stores_name rfl) ?_
    exact fun D σ H => asg_read (fun _ _ h => h) D σ H
theorem s_par3 (zk : Zok Wx (Stab Wx) al) {i j l : Nat} {x y z : Str} {a b d : E} {pa pb pd : Expr} {px py pz pt pos : Pos} {kt k2 : Nat} {pt2 : Pos} (hc : X.calm = true) (hN : X.N.Nodup) (hai : al i = true) (haj : al j = true) (hal : al l = true) (hi : X.N[i]? = some x) (hj : X.N[j]? = some y) (hl : X.N[l]? = some z) (hij : i ≠ j) (hil : i ≠ l) (hjl : j ≠ l)
    (hx : X.env.scope.names.lookup x = some .local) (hy : X.env.scope.names.lookup y = some .local) (hz : X.env.scope.names.lookup z = some .local) (hw : swappedStores [.Tuple [.Name x px, .Name y py, .Name z pz] kt pt] (.Tuple [pa, pb, pd] k2 pt2) X.env = pure (some [x, y, z]))
    (ha : PA X [pa, pb, pd] (tAr X.K ad (evs P cf (.cons a (.cons b (.cons d .nil)))) Wx)) :
    PS X (.Assign [.Tuple [.Name x px, .Name y py, .Name z pz] kt pt] (.Tuple [pa, pb, pd] k2 pt2) pos) (tS X.K ad (exS P cf (.asg (.tup (.cons (.nm i) (.cons (.nm j) (.cons (.nm l) .nil)))) (.tup (.cons a (.cons b (.cons d .nil)))))) Wx) := by
  refine psI (ps_par3 hc hN hi hj hl hij hil hjl hx hy hz ha hw rfl) ?_
  rintro D σ H ⟨W, env, h, er, rl, p⟩
  rw [exS, evE] at p
  simp only [bind_assoc'] at p
  refine ⟨W, env, h, er, rl, p.seq fun xs h1 W1 rs H1 l1 rl1 qs p1 => ?_⟩
  unfold mkT at p1
  by_cases hlen : xs.length ≤ line
  · have p2 : Post X.K ad (RF X.K ad Wx σ) Wx W1 σ (QD D) ((do let e1 ← bindT P cf (.tup (.cons (.nm i) (.cons (.nm j) (.cons (.nm l) .nil)))) (.tup xs) env; pure (Fl.nx, e1) : M (Fl × Env)) h1) := by
      have z : ∀ {α : Type} (k : LV → M α), ((fun h => if xs.length ≤ line then Res.ok (LV.tup xs) h else Res.bad : M LV) >>= k) h1 = k (.tup xs) h1 := fun k => bind_ok (if_pos hlen)
      rw [z] at p1
      exact p1
    rw [bindT, show (tupV (.tup xs) : M (List LV)) = pure xs from rfl, pure_bind'] at p2
    cases qs with
    | nil =>
      rw [bind_bad (bind_bad rfl)] at p2
      exact p2.elim
    | @cons x1 xs r1 rs qa qs =>
      cases qs with
      | nil =>
        rw [bind_bad (bind_bad rfl)] at p2
        exact p2.elim
      | @cons x2 xs r2 rs qb qs =>
        cases qs with
        | nil =>
          rw [bind_bad (bind_bad rfl)] at p2
          exact p2.elim
        | @cons x3 xs r3 rs qd qs =>
          cases qs with
          | cons qc qs =>
            rw [bind_bad (bind_bad (by unfold M.chk; rw [if_neg (by simp [lenT])]; rfl))] at p2
            exact p2.elim
          | nil =>
            have e3 : (do let _ ← M.chk (decide ([x1, x2, x3].length = lenT (.cons (.nm i) (.cons (.nm j) (.cons (.nm l) .nil))))); bindTs P cf (.cons (.nm i) (.cons (.nm j) (.cons (.nm l) .nil))) [x1, x2, x3] env : M Env) h1 = .ok (((env.set i (some x1)).set j (some x2)).set l (some x3)) h1 := by
              rw [bind_ok (m := M.chk _) (a := ()) (h' := h1) rfl]
              simp only [bindTs, bindT, pure_bind']
              rfl
            rw [bind_ok e3] at p2
            refine ⟨r1, r2, r3, rfl, ?_⟩
            have s1 : Stab Wx σ (((σ.set i (some r1)).set j (some r2)).set l (some r3)) := ((zk.st _ _ (zk.set i σ (some r1) hai)).trans (zk.st _ _ (zk.set j _ (some r2) haj))).trans (zk.st _ _ (zk.set l _ (some r3) hal))
            exact QD.nx_of (p2.moveF s1) ((((er.mono X.K ad l1).set X.K ad qa i).set X.K ad qb j).set X.K ad qd l) rl1
  · have z : ∀ {α : Type} (k : LV → M α), ((fun h => if xs.length ≤ line then Res.ok (LV.tup xs) h else Res.bad : M LV) >>= k) h1 = .bad := fun k => bind_bad (if_neg hlen)
    rw [z] at p1
    exact p1.elim
theorem augV_cases (op : BOp) (a b : LV) : augV op a b = M.bad ∨ ∃ i j, a = .int i ∧ b = .int j ∧ ((op = .add ∧ augV op a b = pure (.int (i + j))) ∨ (op = .sub ∧ augV op a b = pure (.int (i - j)))) := by
  unfold augV
  split
  · exact .inr ⟨_, _, rfl, rfl, .inl ⟨rfl, rfl⟩⟩
  · exact .inr ⟨_, _, rfl, rfl, .inr ⟨rfl, rfl⟩⟩
  · exact .inl rfl
def ipB (op : BOp) : Int → Int → Int := match op with
  | .sub => fun i j => i - j
  | _ => fun i j => i + j
theorem s_aug (zk : Zok Wx (Stab Wx) al) {i : Nat} {x : Str} {op : BOp} {e : E} {pe : Expr} {pos pos' : Pos} (hop : op = .add ∨ op = .sub) (ha : al i = true) (hN : X.N.Nodup) (hi : X.N[i]? = some x) (hx : L2.Loc X.env.scope x) (hf : X.fn x = true ∨ X.env.scope.names.lookup x = some .local)
    (he : PE X pe (tE X.K ad (evE P cf e) Wx)) : PS X (.AugAssign (.Name x pos') (opk op) pe pos) (tS X.K ad (exS P cf (.aug i op e)) Wx) := by
  have hip : PIp X (opk op) (ipI (ipB op)) := by
    rcases hop with z | z
    · subst z; exact ip_add
    · subst z; exact ip_sub
  refine psI (ps_aug hN hi hx he hip hf) ?_
  rintro D σ H ⟨W, env, h, er, rl, p⟩
  rw [exS, evE] at p
  cases e1 : env[i]? with
  | none => rw [e1] at p; rw [bind_bad rfl] at p; exact p.elim
  | some o =>
    rw [e1] at p
    cases o with
    | none => rw [bind_bad rfl] at p; exact p.elim
    | some v =>
      obtain ⟨r, e2, qv⟩ := er.at_ i v e1
      dsimp only at p
      rw [pure_bind'] at p
      refine ⟨r, e2, arg1_e er rl p fun W1 h1 H1 w y l1 rl1 qw p1 => ?_⟩
      rcases augV_cases op v w with z | ⟨a, b, ea, eb, z⟩
      · rw [z, bind_bad rfl] at p1
        exact p1.elim
      · subst ea
        subst eb
        cases qv
        cases qw
        have fin : ∀ k : Int, augV op (.int a) (.int b) = pure (.int k) → ipB op a b = k → ∃ (i1 j1 : Int), V.int a = .int i1 ∧ V.int b = .int j1 ∧ D.nx (σ.set i (some (.int (ipB op i1 j1)))) H1 := fun k ek eb => by
          rw [ek, pure_bind'] at p1
          refine ⟨a, b, rfl, rfl, ?_⟩
          rw [eb]
          exact QD.nx_of (p1.moveF (zk.st _ _ (zk.set i σ (some (V.int k)) ha))) ((er.mono X.K ad l1).set X.K ad (.int k) i) rl1
        rcases z with ⟨z1, z2⟩ | ⟨z1, z2⟩
        · exact fin _ z2 (by rw [z1]; rfl)
        · exact fin _ z2 (by rw [z1]; rfl)
end
/-! ### the check -/
section
variable (P : Prog)
def yes : Nat → Bool := fun _ => true
def isLocal (c : Ck) (x : Str) : Bool := lkB c.sc x .local
def ckAsg (c : Ck) (t : T) (e : E) (pt pe : Expr) : Bool :=
  if (isComp pe && isNm pt) = true then (match t, pt with
    | .nm i, .Name y _ => sl c i y && (locB c y && (match e with
      | .comp _ _ _ _ _ _ => ckE P e c pe
      | .frz (.comp a b x y z w) => ckE P (.comp a b x y z w) c pe
      | _ => false))
    | _, _ => false)
  else if swNone c.sc pt pe = true then plainTg pt && (ckT P t c yes pt && ckE P e c pe)
  else (match t, e, pt, pe with
    | .tup (.cons (.nm i) (.cons (.nm j) .nil)), .tup es, .Tuple [.Name x p1, .Name y p2] kt p3, .Tuple [pa, pb] _ _ => decide (i ≠ j) && (sl c i x && (sl c j y && (swSome c.sc [.Name x p1, .Name y p2] [pa, pb] && (decide (tgNames c.sc [.Name x p1, .Name y p2] = [x, y]) && (isLocal c x && (isLocal c y && (match es with
      | .cons a (.cons b .nil) => ckEs P (.cons a (.cons b .nil)) c [pa, pb]
      | _ => false)))))))
    | .tup (.cons (.nm i) (.cons (.nm j) (.cons (.nm l) .nil))), .tup es, .Tuple [.Name x p1, .Name y p2, .Name z p4] kt p3, .Tuple [pa, pb, pd] _ _ => (decide (i ≠ j) && (decide (i ≠ l) && decide (j ≠ l))) && (sl c i x && (sl c j y && (sl c l z && (swSome c.sc [.Name x p1, .Name y p2, .Name z p4] [pa, pb, pd] && (decide (tgNames c.sc [.Name x p1, .Name y p2, .Name z p4] = [x, y, z]) && (isLocal c x && (isLocal c y && (isLocal c z && (match es with
      | .cons a (.cons b (.cons d .nil)) => ckEs P (.cons a (.cons b (.cons d .nil))) c [pa, pb, pd]
      | _ => false)))))))))
    | _, _, _, _ => false)
mutual
def ckS : S → Ck → Stmt → Bool
  | .expr e, c, st => match st with
    | .Expr pe _ => !isComp pe && ckE P e c pe
    | _ => false
  | .asg t e, c, st => match st with
    | .Assign [pt] pe _ => ckAsg P c t e pt pe
    | _ => false
  | .aug i op e, c, st => match st with
    | .AugAssign (.Name x _) o pe _ => sl c i x && (locB c x && (decide (o = opk op) && ((match op with
      | .add => true
      | .sub => true
      | _ => false) && ckE P e c pe)))
    | _ => false
  | .forS t it b, c, st => match st with
    | .For pt pit pb [] _ => noSet pit && (ckI P it c pt pit && (ckT P t c yes pt && ckSs b c pb))
    | _ => false
  | .whileS t b, c, st => match st with
    | .While pt pb [] _ => ckE P t c pt && ckSs b c pb
    | _ => false
  | .ifS t a b, c, st => match st with
    | .If pt pa pb _ => ckE P t c pt && (ckSs a c pa && ckSs b c pb)
    | _ => false
  | .ret e, c, st => match st with
    | .Return (some pe) _ => ckE P e c pe
    | _ => false
  | .retN, _, st => match st with
    | .Return none _ => true
    | _ => false
  | .pass, _, st => match st with
    | .Pass _ => true
    | .Expr (.Constant (.str _) _ _) _ => true
    | _ => false
  | .brk, _, st => match st with
    | .Break _ => true
    | _ => false
  | .cont, _, st => match st with
    | .Continue _ => true
    | _ => false
  | .never, _, _ => true
termination_by structural s => s
def ckSs : Ss → Ck → List Stmt → Bool
  | .nil, _, sts => match sts with
    | [] => true
    | _ => false
  | .cons s r, c, sts => match sts with
    | st :: rest => ckS s c st && ckSs r c rest
    | _ => false
termination_by structural s => s
end
end
structure FitS (ad : String → Addr) (P : Prog) (cf : CF) (n : Nat) (c : Ck) (X : Cx) (Wx : WX) : Prop extends Fit ad P cf n c X Wx where
  own : PassesOwn (model X.prog X.w) X.A X.env X.xe
  zk : Zok Wx (Stab Wx) yes
section
variable {ad : String → Addr} {P : Prog} {cf : CF} {n : Nat}
theorem sndAsg {t : T} {e : E} {c : Ck} {pt pe : Expr} {pos : Pos} (h : ckAsg P c t e pt pe = true) {X : Cx} {Wx : WX} (f : FitS ad P cf n c X Wx) : PS X (.Assign [pt] pe pos) (tS X.K ad (exS P cf (.asg t e)) Wx) := by
  have ft := f.toFit
  unfold ckAsg at h
  by_cases hc : (isComp pe && isNm pt) = true
  · rw [if_pos hc] at h
    split at h
    · rename_i i y py
      simp only [Bool.and_eq_true] at h
      obtain ⟨h1, h2, h3⟩ := h
      obtain ⟨l1, l2⟩ := ft.loc h2
      split at h3
      · unfold ckE at h3
        split at h3
        · simp only [Bool.and_eq_true] at h3
          obtain ⟨g1, g2, g3, g4, g5, g6⟩ := h3
          rename_i mu own elt tg it cond _ pelt ptg piter pifs scope p2
          have ok := ft.blkOk g1
          have q := s_setC (P := P) (cf := cf) (ad := ad) (mu := mu) (elt := elt) (tg := tg) (it := it) (cond := cond) (own := ownP c own) (py := py) (pos := p2) (spos := pos) f.zk ft.kind (i := i) rfl (ft.slot h1) l1 l2 ft.calm ft.nd ok g2 (sndI it c _ _ g3 X Wx ft) fun s H C cl fp => by
            have fb := ft.blk ok s H C cl fp
            refine ⟨?_, sndC cond _ _ g5 _ _ fb, (sndE elt _ _ g6 _ _ fb).1⟩
            have zk := Zok.comp ((ownP c own).map (·.2))
            have ht := sndT tg (c.blk _) (fun i => own.contains i) _ g4 _ _ fb
            rw [ownP_snd] at zk ⊢
            exact ht _ zk
          rw [ownP_snd] at q
          exact q
        · cases h3
      · unfold ckE at h3
        split at h3
        · simp only [Bool.and_eq_true] at h3
          obtain ⟨g1, g2, g3, g4, g5, g6⟩ := h3
          rename_i mu own elt tg it cond _ pelt ptg piter pifs scope p2
          have ok := ft.blkOk g1
          have q := s_setF (P := P) (cf := cf) (ad := ad) (mu := mu) (elt := elt) (tg := tg) (it := it) (cond := cond) (own := ownP c own) (py := py) (pos := p2) (spos := pos) f.zk ft.kind (i := i) rfl (ft.slot h1) l1 l2 ft.calm ft.nd ok g2 (sndI it c _ _ g3 X Wx ft) fun s H C cl fp => by
            have fb := ft.blk ok s H C cl fp
            refine ⟨?_, sndC cond _ _ g5 _ _ fb, (sndE elt _ _ g6 _ _ fb).1⟩
            have zk := Zok.comp ((ownP c own).map (·.2))
            have ht := sndT tg (c.blk _) (fun i => own.contains i) _ g4 _ _ fb
            rw [ownP_snd] at zk ⊢
            exact ht _ zk
          rw [ownP_snd] at q
          exact q
        · cases h3
      · cases h3
    · cases h
  · rw [if_neg hc] at h
    have hc' : (isComp pe && isNm pt) = false := by simpa using hc
    by_cases hn : swNone c.sc pt pe = true
    · rw [if_pos hn] at h
      simp only [Bool.and_eq_true] at h
      obtain ⟨h1, h2, h3⟩ := h
      exact s_asg f.zk hc' h1 (sw_none ft.kind (by rw [ft.sc]; exact hn)) (sndE e c _ h3 X Wx ft).1 (sndT t c yes _ h2 X Wx ft _ f.zk)
    · rw [if_neg hn] at h
      have loc : ∀ {x : Str}, isLocal c x = true → X.env.scope.names.lookup x = some .local := fun {x} z => by
        rw [ft.sc]
        simpa [isLocal, lkB] using z
      split at h
      · simp only [Bool.and_eq_true, decide_eq_true_eq] at h
        obtain ⟨h0, h1, h2, h3, h4, h5, h6, h7⟩ := h
        split at h7
        · refine s_par f.zk ft.calm ft.nd rfl rfl (ft.slot h1) (ft.slot h2) h0 (loc h5) (loc h6) ?_ (sndEs _ c _ h7 X Wx ft)
          rw [sw_tt ft.kind, ft.sc, swV_some h3, h4]
        · cases h7
      · simp only [Bool.and_eq_true, decide_eq_true_eq] at h
        obtain ⟨⟨h0, h01, h02⟩, h1, h2, h2', h3, h4, h5, h6, h6', h7⟩ := h
        split at h7
        · refine s_par3 f.zk ft.calm ft.nd rfl rfl rfl (ft.slot h1) (ft.slot h2) (ft.slot h2') h0 h01 h02 (loc h5) (loc h6) (loc h6') ?_ (sndEs _ c _ h7 X Wx ft)
          rw [sw_tt ft.kind, ft.sc, swV_some h3, h4]
        · cases h7
      · cases h
mutual
theorem sndS : ∀ (s : S) (c : Ck) (st : Stmt), ckS P s c st = true → ∀ (X : Cx) (Wx : WX), FitS ad P cf n c X Wx → PS X st (tS X.K ad (exS P cf s) Wx)
  | .expr e, c, st, h, X, Wx, f => by
    unfold ckS at h
    split at h
    · simp only [Bool.and_eq_true] at h
      exact s_expr (not_t h.1) (sndE e c _ h.2 X Wx f.toFit).1
    · cases h
  | .asg t e, c, st, h, X, Wx, f => by
    unfold ckS at h
    split at h
    · exact sndAsg h f
    · cases h
  | .aug i op e, c, st, h, X, Wx, f => by
    unfold ckS at h
    split at h
    · simp only [Bool.and_eq_true, decide_eq_true_eq] at h
      obtain ⟨h1, h2, h3, h4, h5⟩ := h
      obtain ⟨l1, l2⟩ := f.toFit.loc h2
      subst h3
      refine s_aug f.zk ?_ rfl f.nd (f.toFit.slot h1) l1 l2 (sndE e c _ h5 X Wx f.toFit).1
      cases op <;> first | exact .inl rfl | exact .inr rfl | cases h4
    · cases h
  | .forS t it b, c, st, h, X, Wx, f => by
    unfold ckS at h
    split at h
    · simp only [Bool.and_eq_true] at h
      obtain ⟨h1, h2, h3, h4⟩ := h
      exact s_for f.zk f.own f.calm h1 (sndI it c _ _ h2 X Wx f.toFit) (sndT t c yes _ h3 X Wx f.toFit _ f.zk) (sndSs b c _ h4 X Wx f)
    · cases h
  | .whileS t b, c, st, h, X, Wx, f => by
    unfold ckS at h
    split at h
    · simp only [Bool.and_eq_true] at h
      exact s_while f.own (sndE t c _ h.1 X Wx f.toFit).2 (sndSs b c _ h.2 X Wx f)
    · cases h
  | .ifS t a b, c, st, h, X, Wx, f => by
    unfold ckS at h
    split at h
    · simp only [Bool.and_eq_true] at h
      exact s_if (sndE t c _ h.1 X Wx f.toFit).2 (sndSs a c _ h.2.1 X Wx f) (sndSs b c _ h.2.2 X Wx f)
    · cases h
  | .ret e, c, st, h, X, Wx, f => by
    unfold ckS at h
    split at h
    · exact s_ret (sndE e c _ h X Wx f.toFit).1
    · cases h
  | .retN, c, st, h, X, Wx, f => by
    unfold ckS at h
    split at h
    · exact s_retN
    · cases h
  | .pass, c, st, h, X, Wx, f => by
    unfold ckS at h
    split at h
    · exact s_pass
    · exact s_doc
    · cases h
  | .brk, c, st, h, X, Wx, f => by
    unfold ckS at h
    split at h
    · exact s_brk
    · cases h
  | .cont, c, st, h, X, Wx, f => by
    unfold ckS at h
    split at h
    · exact s_cont
    · cases h
  | .never, c, st, h, X, Wx, f => ⟨fun pins s σ H D I ⟨W, env, h, er, rl, p⟩ => by
    rw [exS] at p
    exact p.elim⟩
theorem sndSs : ∀ (s : Ss) (c : Ck) (sts : List Stmt), ckSs P s c sts = true → ∀ (X : Cx) (Wx : WX), FitS ad P cf n c X Wx → PSs X sts (tS X.K ad (exSs P cf s) Wx)
  | .nil, c, sts, h, X, Wx, f => by
    unfold ckSs at h
    split at h
    · exact ss_nil
    · cases h
  | .cons s r, c, sts, h, X, Wx, f => by
    unfold ckSs at h
    split at h
    · simp only [Bool.and_eq_true] at h
      exact ss_cons (sndS s c _ h.1 X Wx f) (sndSs r c _ h.2 X Wx f)
    · cases h
end
end
end Mn

set_option Elab.async false
set_option linter.all false
set_option maxRecDepth 100000
set_option maxHeartbeats 4000000
/-! Mini, part 16: a def keeps what the interpreter says of it. -/
namespace Mn
open PySem PySem.Spec PyProof.Rows L2
section
variable {K : PySem.W.Frag} {ad : String → Addr} {W : Wd}
/-- a value of the interpreter, a value of the model -/
def RW2 (K : PySem.W.Frag) (ad : String → Addr) (W : Wd) (v : LV) (u : Value) : Prop := ∃ r, VR K ad W v r ∧ RelV r u
/-- values by names -/
inductive AL (K : PySem.W.Frag) (ad : String → Addr) (W : Wd) : List (String × LV) → List (Str × Value) → Prop
  | nil : AL K ad W [] []
  | cons {x : String} {v : LV} {u : Value} {l : List (String × LV)} {m : List (Str × Value)} : RW2 K ad W v u → AL K ad W l m → AL K ad W ((x, v) :: l) ((Str.ofString x, u) :: m)
theorem AL.append : ∀ {l l' : List (String × LV)} {m m' : List (Str × Value)}, AL K ad W l m → AL K ad W l' m' → AL K ad W (l ++ l') (m ++ m')
  | _, _, _, _, .nil, b => b
  | _, _, _, _, .cons h a, b => .cons h (a.append b)
theorem ofs_beq (x y : String) : (Str.ofString x == Str.ofString y) = (x == y) := by
  by_cases h : x = y
  · subst h
    simp
  · have h1 : (x == y) = false := by simpa using h
    have h2 : (Str.ofString x == Str.ofString y) = false := by
      rw [beq_eq_false_iff_ne]
      exact fun z => h (ofString_inj z)
    rw [h1, h2]
theorem AL.lookup (x : String) : ∀ {l : List (String × LV)} {m : List (Str × Value)}, AL K ad W l m → (∀ v, l.lookup x = some v → ∃ u, m.lookup (Str.ofString x) = some u ∧ RW2 K ad W v u) ∧ (l.lookup x = none → m.lookup (Str.ofString x) = none)
  | _, _, .nil => ⟨fun v h => (by cases h), fun _ => rfl⟩
  | _, _, .cons (x := y) (v := w) (u := u) (l := l) (m := m) h a => by
    obtain ⟨h1, h2⟩ := AL.lookup x a
    rw [List.lookup_cons, List.lookup_cons, ofs_beq]
    cases x == y with
    | true => exact ⟨fun v e => by cases e; exact ⟨u, rfl, h⟩, fun e => by cases e⟩
    | false => exact ⟨h1, h2⟩
theorem AL.zip : ∀ {ps : List String} {lv : List LV} {vs : List V} {us : List Value}, VRs K ad W lv vs → Vals vs us → AL K ad W (ps.zip lv) ((ps.map Str.ofString).zip us)
  | [], _, _, _, _, _ => .nil
  | _ :: _, _, _, _, .nil, .nil => .nil
  | _ :: _, _, _, _, .cons q qs, .cons r rs => .cons ⟨_, q, r⟩ (AL.zip qs rs)
theorem AL.vals {l : List (String × LV)} {m : List (Str × Value)} (a : AL K ad W l m) : ∀ {xs : List String} {vs : List LV}, mapO (fun x => l.lookup x) xs = some vs →
    ∃ rs us, mapO (fun x => m.lookup x) (xs.map Str.ofString) = some us ∧ VRs K ad W vs rs ∧ Vals rs us
  | [], vs, h => by
    cases h
    exact ⟨[], [], rfl, .nil, .nil⟩
  | x :: xs, vs, h => by
    unfold mapO at h
    cases e : l.lookup x with
    | none => rw [e] at h; cases h
    | some v =>
      rw [e] at h
      dsimp only at h
      cases e2 : mapO (fun x => l.lookup x) xs with
      | none => rw [e2] at h; cases h
      | some ws =>
        rw [e2] at h
        cases h
        obtain ⟨u, h1, r, h2, h3⟩ := (a.lookup x).1 v e
        obtain ⟨rs, us, h4, h5, h6⟩ := AL.vals a e2
        refine ⟨r :: rs, u :: us, ?_, .cons h2 h5, .cons h3 h6⟩
        show mapO (fun x => m.lookup x) (Str.ofString x :: xs.map Str.ofString) = _
        unfold mapO
        rw [h1, h4]
theorem kw_ok {names : Str → Bool} : ∀ {ks : List (String × LV)} {m : List (Str × Value)} {l0 : List (String × LV)} {m0 : List (Str × Value)}, AL K ad W ks m → AL K ad W l0 m0 → nodupS (ks.map (·.1)) = true → (∀ p ∈ ks, names (Str.ofString p.1) = true ∧ l0.lookup p.1 = none) →
    KwOk names m m0
  | _, _, _, _, .nil, _, _, _ => trivial
  | _, _, l0, m0, .cons (x := x) (v := v) (u := u) (l := l) (m := m) h a, a0, hn, hp => by
    have hn' : (!(l.map (·.1)).contains x && nodupS (l.map (·.1))) = true := hn
    obtain ⟨n1, n2⟩ := Bool.and_eq_true_iff.mp hn'
    have h0 := hp (x, v) List.mem_cons_self
    refine ⟨h0.1, by rw [(a0.lookup x).2 h0.2]; rfl, ?_⟩
    refine kw_ok (l0 := l0 ++ [(x, v)]) a (a0.append (.cons h .nil)) n2 fun p hp' => ?_
    have h1 := hp p (List.mem_cons_of_mem _ hp')
    refine ⟨h1.1, ?_⟩
    rw [lookup_app, h1.2, Option.none_or, List.lookup_cons]
    have : (p.1 == x) = false := by
      rw [beq_eq_false_iff_ne]
      intro z
      have hm : x ∈ l.map (·.1) := z ▸ List.mem_map_of_mem hp'
      have : (l.map (·.1)).contains x = true := by simpa using hm
      rw [this] at n1
      cases n1
    rw [this]
    rfl
theorem VRs.len2 {lv : List LV} {vs : List V} {us : List Value} (q : VRs K ad W lv vs) (r : Vals vs us) : lv.length = us.length := q.length.trans r.length
end
/-- the slots' names -/
def Fn.N (fn : Fn) : List Str := fn.names.map Str.ofString
def Fn.ps (fn : Fn) : List String := fn.names.take fn.npos
/-- what a def's text must be -/
def ckFn (P : Prog) (fn : Fn) (params : Arguments) (body : List Stmt) (scope : Scope) : Bool :=
  let as := params.args.map (·.arg)
  let ks := params.kwonlyargs.map (·.arg)
  let all := as ++ ks ++ (match params.vararg with
    | some a => [a.arg]
    | none => [])
  (params.posonlyargs.isEmpty && params.kwarg.isNone) &&
  (decide (as = fn.ps.map Str.ofString) && (decide (ks = fn.kwo.map fun p => Str.ofString p.1) && ((fn.star == params.vararg.isSome) && (decide (fn.npos = fn.ps.length) && (decide (fn.dfl.length ≤ fn.npos) &&
  ((decide (fn.N.take all.length = all) && (decide fn.N.Nodup && (decide (scope.kind = .function) && (!scope.isCoroutine && (!scope.isGenerator && (all.all (fun x => lkB scope x .local || lkB scope x .cell) && scope.names.all (fun y => decide (y.2 ≠ .free)))))))) &&
    ckSs P fn.body ⟨fn.N, scope, fun _ => true⟩ body))))))
theorem er_start {K : PySem.W.Frag} {ad : String → Addr} {W : Wd} {lv : List LV} {vs : List V} {names : List String} {N : List Str} (q : VRs K ad W lv vs) (hN : N.length = names.length) :
    ER K ad W (lv.map some ++ List.replicate (names.length - lv.length) none) (L2.start N vs) := by
  unfold L2.start
  refine ⟨by simp [q.length, hN], fun i v h => ?_⟩
  by_cases hi : i < lv.length
  · rw [List.getElem?_append_left (by simpa using hi), List.getElem?_map] at h
    cases e : lv[i]? with
    | none => rw [e] at h; cases h
    | some w =>
      rw [e] at h
      cases h
      obtain ⟨r, e1, e2⟩ := q.get e
      refine ⟨r, ?_, e2⟩
      rw [List.getElem?_append_left (by rw [List.length_map, ← q.length]; exact hi), List.getElem?_map, e1]
      rfl
  · rw [List.getElem?_append_right (by simpa using hi), List.getElem?_replicate] at h
    split at h <;> cases h
theorem zok_flat {E : XK} : Zok (fun cls d (_ : St) H => E cls d H) (Stab fun cls d (_ : St) H => E cls d H) yes where
  refl := fun _ => .refl
  trans := fun _ _ _ => .trans
  st := fun _ _ h => h
  set := fun _ _ _ _ _ _ _ h => h
section
variable {ad : String → Addr} {P : Prog} {n : Nat} {prog : Program} {w : World} {K : PySem.W.Frag} {mg : Str → Option Value} {base : Heap}
theorem fnG_none {f : String} (h : P.fns.lookup f = none) : FnG ad (callF P (n + 1)) (n + 1) prog w K mg base f := by
  intro A outer s H us ws vs zs ks Q E hr e0 ru rw_ hsp
  obtain ⟨W, hh, lv, lz, rl, qv, qz, p⟩ := hsp
  rw [show callF P (n + 1) f lv (ks.zip lz) = M.bad by unfold callF; rw [h]] at p
  exact p.elim
theorem fnG_zero {f : String} : FnG ad (callF P 0) 0 prog w K mg base f := by
  intro A outer s H us ws vs zs ks Q E hr e0 ru rw_ hsp
  obtain ⟨W, hh, lv, lz, rl, qv, qz, p⟩ := hsp
  exact p.elim
theorem bindF_cases (fn : Fn) (args : List LV) (kws : List (String × LV)) : bindF fn args kws = none ∨ (nodupS (kws.map (·.1)) = true ∧ (∀ p ∈ kws, (fn.ps.contains p.1 = true ∨ (fn.kwo.map (·.1)).contains p.1 = true) ∧ (fn.ps.zip args).lookup p.1 = none) ∧ (fn.star = true ∨ args.length ≤ fn.npos) ∧
    ∃ vs, mapO (fun x => (bindL fn.ps args kws fn.dfl fn.kwo).lookup x) (fn.ps ++ fn.kwo.map (·.1)) = some vs ∧
      ((fn.star = true ∧ (args.drop fn.npos).length ≤ line ∧ bindF fn args kws = some (vs ++ [.tup (args.drop fn.npos)])) ∨ (fn.star = false ∧ bindF fn args kws = some vs))) := by
  by_cases hc : (nodupS (kws.map (·.1)) && (kws.all (fun p => (fn.ps.contains p.1 || (fn.kwo.map (·.1)).contains p.1) && ((fn.ps.zip args).lookup p.1).isNone) && (fn.star || decide (args.length ≤ fn.npos)))) = true
  · have hc0 := hc
    simp only [Bool.and_eq_true, Bool.or_eq_true, List.all_eq_true, decide_eq_true_eq] at hc
    obtain ⟨h1, h2, h3⟩ := hc
    cases e : mapO (fun x => (bindL fn.ps args kws fn.dfl fn.kwo).lookup x) (fn.ps ++ fn.kwo.map (·.1)) with
    | none =>
      refine .inl ?_
      unfold bindF
      dsimp only
      refine (if_pos hc0).trans ?_
      show (match mapO (fun x => (bindL fn.ps args kws fn.dfl fn.kwo).lookup x) (fn.ps ++ fn.kwo.map (·.1)) with | some vs => _ | none => none) = none
      rw [e]
    | some vs =>
      have key : bindF fn args kws = if fn.star = true then (if (args.drop fn.npos).length ≤ line then some (vs ++ [.tup (args.drop fn.npos)]) else none) else some vs := by
        unfold bindF
        dsimp only
        refine (if_pos hc0).trans ?_
        have e' : mapO (fun x => (bindL (fn.names.take fn.npos) args kws fn.dfl fn.kwo).lookup x) (fn.names.take fn.npos ++ fn.kwo.map (·.1)) = some vs := e
        rw [e']
      by_cases hs : fn.star = true
      · rw [if_pos hs] at key
        by_cases hl : (args.drop fn.npos).length ≤ line
        · rw [if_pos hl] at key
          exact .inr ⟨h1, fun p hp => ⟨(h2 p hp).1, by simpa using (h2 p hp).2⟩, h3, vs, rfl, .inl ⟨hs, hl, key⟩⟩
        · rw [if_neg hl] at key
          exact .inl key
      · rw [if_neg hs] at key
        exact .inr ⟨h1, fun p hp => ⟨(h2 p hp).1, by simpa using (h2 p hp).2⟩, h3, vs, rfl, .inr ⟨by simpa using hs, key⟩⟩
  · refine .inl ?_
    unfold bindF
    exact if_neg hc
theorem vals_drop : ∀ {vs : List V} {us : List Value} (k : Nat), Vals vs us → Vals (vs.drop k) (us.drop k)
  | _, _, 0, r => r
  | _, _, _ + 1, .nil => .nil
  | _, _, k + 1, .cons _ r => vals_drop k r
theorem lt_units {u k : Nat} (h : u + 16 * k + 200 < cLine) : u + 66 < cLine := by omega
theorem zip_self {α β : Type} : ∀ l : List (α × β), (l.map (·.1)).zip (l.map (·.2)) = l
  | [] => rfl
  | (a, b) :: r => by
    show (a, b) :: (r.map (·.1)).zip (r.map (·.2)) = _
    rw [zip_self r]
theorem callF_some {f : String} {fn : Fn} {args vs : List LV} {kws : List (String × LV)} (hf : P.fns.lookup f = some fn) (hb : bindF fn args kws = some vs) :
    callF P (n + 1) f args kws = (do let r ← exSs P (callF P n) fn.body (vs.map some ++ List.replicate (fn.names.length - vs.length) none); endB r.1 : M LV) := by
  unfold callF
  rw [hf]
  dsimp only
  rw [hb]
theorem callF_none {f : String} {fn : Fn} {args : List LV} {kws : List (String × LV)} (hf : P.fns.lookup f = some fn) (hb : bindF fn args kws = none) : callF P (n + 1) f args kws = M.bad := by
  unfold callF
  rw [hf]
  dsimp only
  rw [hb]
theorem fn_G {f : String} {fn : Fn} {x qual : Str} {params : Arguments} {body : List Stmt} {scope : Scope} {dvs : List V} {kws : List (Str × V)} {fd : FuncData} (hf : P.fns.lookup f = some fn) (F : FunD K x qual params body scope dvs kws (ad f) fd) (ck : ckFn P fn params body scope = true)
    (hD : ∀ W, VRs K ad W fn.dfl dvs) (hKn : kws.map (·.1) = fn.kwo.map fun p => Str.ofString p.1) (hK : ∀ W, VRs K ad W (fn.kwo.map (·.2)) (kws.map (·.2))) (gd : Gd P ad K mg) (ih : ∀ g, FnG ad (callF P n) n prog w K mg base g) :
    FnG ad (callF P (n + 1)) (n + 1) prog w K mg base f := by
  intro A outer s H us ws vs zs ks Q E hr e0 ru rz hsp
  obtain ⟨W, hh, lv, lz, rl, qv, qz, p⟩ := hsp
  obtain ⟨oc, od, dV, kV, doc, pm, an, cdv, ct, osl, efd, lk, hcd, hDV, hKV⟩ := F.ex
  subst efd
  unfold ckFn at ck
  simp only [Bool.and_eq_true, decide_eq_true_eq, List.isEmpty_iff, Option.isNone_iff_eq_none, beq_iff_eq, List.all_eq_true] at ck
  obtain ⟨⟨c1, c2⟩, c3, c4, c5, c6, c7, ⟨d1, d2, d3, d4, d5, d6, d7⟩, c8⟩ := ck
  rcases bindF_cases fn lv (ks.zip lz) with hb | ⟨b1, b2, b3, lvals, b4, b5⟩
  · rw [callF_none hf hb] at p
    exact p.elim
  have KX : K.In s.heap := e0.mod.kin.keeps fun b o e => (e0.bs b o e).1
  have las : params.args.length = fn.npos := by
    have := congrArg List.length c3
    rw [List.length_map, List.length_map, ← c6] at this
    exact this
  -- the defaults
  obtain ⟨its, hits, hits2⟩ : ∃ its : List Value, Vals dvs its ∧ ((its = [] ∧ dV = .none) ∨ ∃ (T : Addr) (o : Obj) (m : Nat), dV = .ref T ∧ K.lookup T = some o ∧ o.data = .seq its.toArray m) := by
    rcases hDV with ⟨e1, e2⟩ | ⟨_, T, o, its, m, e1, e2, e3, e4⟩
    · subst e1
      exact ⟨[], .nil, .inl ⟨rfl, e2⟩⟩
    · exact ⟨its, e4, .inr ⟨T, o, m, e1, e2, e3⟩⟩
  have lits : its.length = fn.dfl.length := (VRs.len2 (hD W) hits).symm
  obtain ⟨kv, lkv, rkv, hkv⟩ : ∃ kv : List Value, kv.length = kws.length ∧ Vals (kws.map (·.2)) kv ∧ ∀ q ∈ (kws.map (·.1)).zip kv, ∃ D, kV = .ref D ∧ PySem.W.nsIn K D q.1 = some (some q.2) := by
    rcases hKV with e | ⟨D, e, hq⟩
    · subst e
      exact ⟨[], rfl, .nil, fun q hq => by cases hq⟩
    · obtain ⟨kv, h1, h2, h3⟩ := kwd_vals hq
      exact ⟨kv, h1, h2, fun q hq => ⟨D, e, h3 q hq⟩⟩
  have eks : params.kwonlyargs.map (·.arg) = kws.map (·.1) := c4.trans hKn.symm
  -- all that the call brings
  have aL : AL K ad W (bindL fn.ps lv (ks.zip lz) fn.dfl fn.kwo) (bindL (params.args.map (·.arg)) us ((ks.map Str.ofString).zip ws) its ((params.kwonlyargs.map (·.arg)).zip kv)) := by
    unfold bindL
    rw [c3, c4]
    refine (AL.zip qv ru).append ((AL.zip qz rz).append (AL.append ?_ ?_))
    · rw [List.length_map, lits, ← List.map_drop]
      exact AL.zip (hD W) hits
    · have z := AL.zip (ps := fn.kwo.map (·.1)) (hK W) rkv
      rw [zip_self, List.map_map] at z
      exact z
  obtain ⟨rs, uvals, e1, qvals, rvals⟩ := aL.vals b4
  have enames : (fn.ps ++ fn.kwo.map (·.1)).map Str.ofString = params.args.map (·.arg) ++ params.kwonlyargs.map (·.arg) := by
    rw [List.map_append, List.map_map, c3, c4]
    rfl
  rw [enames] at e1
  have hNN : (fn.N.take (params.args.map (·.arg) ++ params.kwonlyargs.map (·.arg) ++ (match params.vararg with | some a => [a.arg] | none => [])).length).Nodup := d2.sublist (List.take_sublist _ _)
  rw [d1] at hNN
  have hNN2 := (List.nodup_append.mp hNN).1
  have S : FnScope fn.N (params.args.map (·.arg) ++ params.kwonlyargs.map (·.arg) ++ (match params.vararg with | some a => [a.arg] | none => [])) scope := by
    refine ⟨d3, not_t d4, not_t d5, d2, d1, fun x hx => ?_, fun y hy => d7 y hy⟩
    have := d6 x hx
    simp only [lkB, Bool.or_eq_true, decide_eq_true_eq] at this
    exact this
  -- the rule, whatever the star gives
  have run : ∀ (full : List LV), callF P (n + 1) f lv (ks.zip lz) = (do let r ← exSs P (callF P n) fn.body (full.map some ++ List.replicate (fn.names.length - full.length) none); endB r.1 : M LV) →
      StX.Bnd (L2.CX prog w) prog w K mg base (PySem.W.fnOf x qual params body scope dV kV doc pm an cdv ct) ⟨us, (ks.map Str.ofString).zip ws⟩ (params.args.map (·.arg) ++ params.kwonlyargs.map (·.arg) ++ (match params.vararg with | some a => [a.arg] | none => [])) A outer s H E
        (fun vs' H2 => ∃ W2, W.le W2 ∧ Rel K ad W2 hh H2 ∧ VRs K ad W2 full vs') →
      codeAny (model prog w) A (.call (.ref (ad f)) ⟨us, (ks.map Str.ofString).zip ws⟩) (CR (L2.CX prog w) outer prog w H s Q E) s := by
    intro full ec hbnd
    rw [ec] at p
    refine StX.run_bnd (k := 2 * n + 1) lk hcd S (hr.room.mono (by omega)) e0 hbnd fun s2 H2 vs' ⟨W2, le2, rl2, q2⟩ hr' => ?_
    have ft : FitS ad P (callF P n) n ⟨fn.N, scope, fun _ => true⟩ (cxOf (L2.CX prog w) prog w K mg base fn.N qual scope (ad f) cdv A outer s2 H2 E) (fun cls d _ H' => E cls d H') :=
      { gd := gd, F := ih, room := hr', gu := hr.gd, un := lt_units hr'.un, tk := takes_of rfl rfl rfl rfl, calm := rfl, nd := d2, kind := d3, N := rfl, sc := rfl, fn := rfl, own := passes_of rfl, zk := zok_flat }
    refine ⟨_, sndSs fn.body _ _ c8 _ _ ft, W2, _, hh, er_start q2 (by unfold Fn.N; rw [List.length_map]), rl2, ?_⟩
    have p2 := (Post.mono le2 p).move (σ := []) (σ' := L2.start fn.N vs') (fun _ _ _ h => h)
    refine p2.seq fun a h3 W3 b H3 l3 rl3 q3 p3 => ?_
    obtain ⟨fl, e3⟩ := a
    obtain ⟨fv, σ3⟩ := b
    obtain ⟨g1, g2, g3⟩ := q3
    cases g1 with
    | nx => exact show Q .non H3 from Post.ok (a := LV.non) (r := V.non) p3 rl3 .non
    | @rt v r qv => exact show Q r H3 from Post.ok (a := v) (r := r) p3 rl3 qv
    | bk => exact p3.elim
    | ct => exact p3.elim
  have hkw : KwOk (fun k => (params.args.map (·.arg)).contains k || (params.kwonlyargs.map (·.arg)).contains k) ((ks.map Str.ofString).zip ws) ((params.args.map (·.arg)).zip us) := by
    rw [c3]
    refine kw_ok (AL.zip qz rz) (AL.zip qv ru) b1 fun p hp => ⟨?_, (b2 p hp).2⟩
    rcases (b2 p hp).1 with z | z
    · have z' : p.1 ∈ fn.ps := by simpa using z
      rw [Bool.or_eq_true]
      exact .inl (by simpa using List.mem_map_of_mem (f := Str.ofString) z')
    · have z' : p.1 ∈ fn.kwo.map (·.1) := by simpa using z
      rw [Bool.or_eq_true, c4]
      refine .inr ?_
      have := List.mem_map_of_mem (f := Str.ofString) z'
      rw [List.map_map] at this
      simpa using this
  have hko : ∀ x ∈ params.args.map (·.arg), x ∉ params.kwonlyargs.map (·.arg) := fun x hx hy => (List.nodup_append.mp hNN2).2.2 x hx x hy rfl
  have hn : us.length ≤ params.args.length ∨ params.vararg.isSome = true := by
    rcases b3 with z | z
    · rw [c5] at z
      exact .inr z
    · rw [VRs.len2 qv ru] at z
      exact .inl (by rw [las]; exact z)
  have hdl : its.length ≤ params.args.length := by omega
  have hkl : kv.length = params.kwonlyargs.length := by rw [lkv, ← List.length_map (f := (·.1)) (as := kws), ← eks, List.length_map]
  have hkq : ∀ q ∈ (params.kwonlyargs.map (·.arg)).zip kv, ∃ D, kV = .ref D ∧ PySem.W.nsIn K D q.1 = some (some q.2) := by rw [eks]; exact hkv
  have lu : uvals.length = (params.args.map (·.arg) ++ params.kwonlyargs.map (·.arg)).length := mapO_len e1
  rcases b5 with ⟨z1, z2, z3⟩ | ⟨z1, z3⟩
  · refine run _ (callF_some hf z3) ?_
    cases ev : params.vararg with
    | none => rw [c5, ev] at z1; cases z1
    | some a =>
      intro A' Ex Q' h
      refine bind_wp (fd := PySem.W.fnOf x qual params body scope dV kV doc pm an cdv ct) (args := ⟨us, (ks.map Str.ofString).zip ws⟩) (its := its) (kv := kv) (vals := uvals) c1 c2 KX hits2 hdl hkl hkq hkw hn e1 hko (List.nodup_append.mp hNN2).1 ?_
      show (match params.vararg with
        | none => Q' ((params.args.map (·.arg) ++ params.kwonlyargs.map (·.arg)).zip uvals) s
        | some a => wpAny (model prog w) A' (newTuple (us.drop params.args.length)) (fun t s' => Q' ((params.args.map (·.arg) ++ params.kwonlyargs.map (·.arg)).zip uvals ++ [(a.arg, t)]) s') Ex s)
      rw [ev]
      dsimp only
      have rdrop : Vals (vs.drop params.args.length) (us.drop params.args.length) := vals_drop _ ru
      have qdrop : VRs K ad W (lv.drop fn.npos) (vs.drop params.args.length) := by rw [las]; exact qv.drop fn.npos
      have hz : (vs.drop params.args.length).length ≤ sizeLine := by rw [← qdrop.length, ← line_eq]; exact z2
      refine wpAny_newTuple ?_ (by rw [← rdrop.length]; exact hz)
      have hfree : H s.heap.objs.size = none := e0.hok.fresh (Nat.le_refl _)
      have new : ObjOk prog w (upd H s.heap.objs.size (.tup (vs.drop params.args.length))) (s.heap.push ({ cls := .type "tuple", data := .seq (us.drop params.args.length).toArray } : Obj)) s.heap.objs.size (.tup (vs.drop params.args.length)) := ⟨hz, _, rdrop, ⟨_, Heap.get?_push_size _ rfl, rfl, _, rfl⟩⟩
      have un := StX.un_laid (fs := frs outer) (s := s) (o := ({ cls := .type "tuple", data := .seq (us.drop params.args.length).toArray } : Obj)) (u := .tup (vs.drop params.args.length)) hfree
      have f1 := rl.fresh hfree
      have y := h _ _ (rs ++ [V.ref s.heap.objs.size]) (uvals ++ [Value.ref s.heap.objs.size]) (StX.env0_laid e0 new) un rfl (fun e s' => StX.cxUp outer s H _ _ E e s' un (fun b o q => Heap.get?_push_of_some _ q) rfl) (rvals.append (.cons rfl .nil))
        (by rw [List.length_append, List.length_append, rvals.length, lu]; rfl)
        ⟨W.frz s.heap.objs.size (.tup (vs.drop params.args.length)), Wd.le_frz f1.1, rl.newF hfree, (qvals.mono K ad (Wd.le_frz f1.1)).append (.cons (.tup Wd.frz_at (qdrop.mono K ad (Wd.le_frz f1.1))) .nil)⟩
      rw [List.zip_append lu.symm] at y
      exact y
  · refine run _ (callF_some hf z3) ?_
    cases ev : params.vararg with
    | some a => rw [c5, ev] at z1; cases z1
    | none =>
      intro A' Ex Q' h
      refine bind_wp (fd := PySem.W.fnOf x qual params body scope dV kV doc pm an cdv ct) (args := ⟨us, (ks.map Str.ofString).zip ws⟩) (its := its) (kv := kv) (vals := uvals) c1 c2 KX hits2 hdl hkl hkq hkw hn e1 hko (List.nodup_append.mp hNN2).1 ?_
      show (match params.vararg with
        | none => Q' ((params.args.map (·.arg) ++ params.kwonlyargs.map (·.arg)).zip uvals) s
        | some a => wpAny (model prog w) A' (newTuple (us.drop params.args.length)) (fun t s' => Q' ((params.args.map (·.arg) ++ params.kwonlyargs.map (·.arg)).zip uvals ++ [(a.arg, t)]) s') Ex s)
      rw [ev]
      dsimp only
      have y := h s H rs uvals e0 Un.refl rfl (fun _ _ z => z) rvals (by rw [List.append_nil, rvals.length, lu]) ⟨W, .refl, rl, qvals⟩
      rw [List.append_nil] at y
      exact y
end
end Mn

set_option Elab.async false
set_option linter.all false
set_option maxRecDepth 100000
set_option maxHeartbeats 4000000
/-! Mini, part 17: a program's defs and facts; the law's end. -/
namespace Mn
open PySem PySem.Spec PyProof.Rows L2
/-- a program, where its defs stand, their texts -/
structure Inst where
  P : Prog
  tab : List (String × (Str × Option Str))
  fn : List He.DefD
def Inst.ad (I : Inst) (K : PySem.W.Frag) (x : String) : Addr := match I.tab.lookup x with
  | some p => He.fAd K p
  | none => He.ga K (Str.ofString x)
def bltN : List String := ["len", "abs", "min", "max", "sum", "any", "all", "int", "list", "tuple", "repr", "range", "enumerate", "zip", "isinstance", "sorted", "str", "dict", "set"]
def globFa : String × LV → He.Fa
  | (x, .int i) => .int (Str.ofString x) i
  | (x, .str s) => .str (Str.ofString x) ⟨s.toArray⟩
  | (x, _) => .glo (Str.ofString x)
def globW : String × LV → Bool
  | (_, .int _) => true
  | (_, .str s) => s.all fun c => decide (c < 1114112)
  | _ => false
def clsFa (c : String × Cl) : List He.Fa := [.glo (Str.ofString c.1), .cls (Str.ofString c.1), .mkr (Str.ofString c.1)] ++ (c.2.fields.map fun f => .noat (Str.ofString c.1) (Str.ofString f)) ++ c.2.meths.map fun m => .meth (Str.ofString c.1) (Str.ofString m.1)
def Inst.fa (I : Inst) : List He.Fa := (I.P.defs.map fun f => .glo (Str.ofString f)) ++ (I.P.defs.map fun f => .keep (Str.ofString f)) ++ (bltN.map fun x => .free (Str.ofString x)) ++ I.P.glob.map globFa ++ I.P.cls.flatMap clsFa
/-- constants as the text has them -/
def dvB : LV → He.Dv → Bool
  | .non, .non => true
  | .bl a, .bl b => a == b
  | .int i, .int j => decide (i = j)
  | .str s, .str x => decide (x = ⟨s.toArray⟩) && s.all fun c => decide (c < 1114112)
  | _, _ => false
def dvsB : List LV → List He.Dv → Bool
  | [], [] => true
  | a :: as, b :: bs => dvB a b && dvsB as bs
  | _, _ => false
def kwdsB : List (String × LV) → List (Str × He.Dv) → Bool
  | [], [] => true
  | a :: as, b :: bs => decide (b.1 = Str.ofString a.1) && (dvB a.2 b.2 && kwdsB as bs)
  | _, _ => false
def okDef (I : Inst) (p : String × Fn) (d : He.DefD) : Bool := decide (I.tab.lookup p.1 = some d.at_) && (dvsB p.2.dfl d.dfl && (kwdsB p.2.kwo d.kwd && ckFn I.P p.2 d.params d.body d.scope))
def okZip (I : Inst) : List (String × Fn) → List He.DefD → Bool
  | [], _ => true
  | p :: ps, d :: ds => okDef I p d && okZip I ps ds
  | _, _ => false
def okCls (I : Inst) (c : String × Cl) : Bool := decide (I.tab.lookup c.1 = none) && (decide (I.tab.lookup c.2.init = some (Str.ofString c.1, some ("__init__" : Str))) && c.2.meths.all fun m => decide (I.tab.lookup m.2 = some (Str.ofString c.1, some (Str.ofString m.1))))
def Inst.wf (I : Inst) : Bool := I.P.defs.all (fun f => decide (I.tab.lookup f = some (Str.ofString f, none))) && (I.P.glob.all globW && I.P.cls.all (okCls I))
section
variable {I : Inst} {K : PySem.W.Frag} {mg : Str → Option Value} {h : Heap}
theorem dvB_ok {ad : String → Addr} {a : LV} {b : He.Dv} (e : dvB a b = true) (W : Wd) : VR K ad W a (b.v K) := by
  cases a with
  | non => cases b with
    | non => exact .non
    | _ => cases e
  | bl x => cases b with
    | bl y =>
      have : x = y := eq_of_beq e
      subst this
      exact .bl x
    | _ => cases e
  | int i => cases b with
    | int j =>
      have : i = j := of_decide_eq_true e
      subst this
      exact .int i
    | _ => cases e
  | str s => cases b with
    | str x =>
      obtain ⟨h1, h2⟩ := Bool.and_eq_true_iff.mp (show (decide (x = ⟨s.toArray⟩) && s.all fun c => decide (c < 1114112)) = true from e)
      have : x = ⟨s.toArray⟩ := of_decide_eq_true h1
      subst this
      exact .str s fun c hc => of_decide_eq_true (List.all_eq_true.mp h2 c hc)
    | _ => cases e
  | _ => cases b <;> cases e
theorem dvsB_ok {ad : String → Addr} (W : Wd) : ∀ {as : List LV} {bs : List He.Dv}, dvsB as bs = true → VRs K ad W as (bs.map (He.Dv.v K))
  | [], [], _ => .nil
  | [], _ :: _, e => by cases e
  | _ :: _, [], e => by cases e
  | a :: as, b :: bs, e => by
    obtain ⟨h1, h2⟩ := Bool.and_eq_true_iff.mp (show (dvB a b && dvsB as bs) = true from e)
    exact .cons (dvB_ok h1 W) (dvsB_ok W h2)
theorem kwdsB_ok {ad : String → Addr} : ∀ {as : List (String × LV)} {bs : List (Str × He.Dv)}, kwdsB as bs = true →
    (bs.map fun q => (q.1, q.2.v K)).map (·.1) = as.map (fun p => Str.ofString p.1) ∧ ∀ W, VRs K ad W (as.map (·.2)) ((bs.map fun q => (q.1, q.2.v K)).map (·.2))
  | [], [], _ => ⟨rfl, fun _ => .nil⟩
  | [], _ :: _, e => by cases e
  | _ :: _, [], e => by cases e
  | a :: as, b :: bs, e => by
    obtain ⟨h1, h2⟩ := Bool.and_eq_true_iff.mp (show (decide (b.1 = Str.ofString a.1) && (dvB a.2 b.2 && kwdsB as bs)) = true from e)
    obtain ⟨h3, h4⟩ := Bool.and_eq_true_iff.mp h2
    obtain ⟨g1, g2⟩ := kwdsB_ok (ad := ad) h4
    refine ⟨?_, fun W => .cons (dvB_ok h3 W) (g2 W)⟩
    rw [List.map_cons, List.map_cons, List.map_cons, g1]
    exact congrArg (· :: _) (of_decide_eq_true h1)
theorem okZip_mem : ∀ {ps : List (String × Fn)} {ds : List He.DefD}, okZip I ps ds = true → ∀ {f : String} {fn : Fn}, ps.lookup f = some fn → ∃ d ∈ ds, okDef I (f, fn) d = true
  | [], _, _, f, fn, e => by cases e
  | p :: ps, [], h, f, fn, e => by cases h
  | p :: ps, d :: ds, h, f, fn, e => by
    obtain ⟨h1, h2⟩ := Bool.and_eq_true_iff.mp (show (okDef I p d && okZip I ps ds) = true from h)
    rw [List.lookup_cons] at e
    cases q : f == p.1 with
    | true =>
      rw [q] at e
      cases e
      have := eq_of_beq q
      subst this
      exact ⟨d, List.mem_cons_self, h1⟩
    | false =>
      rw [q] at e
      obtain ⟨d', hd, z⟩ := okZip_mem h2 e
      exact ⟨d', List.mem_cons_of_mem _ hd, z⟩
theorem ad_some {x : String} {p : Str × Option Str} (e : I.tab.lookup x = some p) : I.ad K x = He.fAd K p := by
  unfold Inst.ad
  rw [e]
theorem ad_none {x : String} (e : I.tab.lookup x = none) : I.ad K x = He.ga K (Str.ofString x) := by
  unfold Inst.ad
  rw [e]
theorem mem_lookup_ {α : Type} {x : String} {v : α} : ∀ {l : List (String × α)}, l.lookup x = some v → (x, v) ∈ l
  | [], e => by cases e
  | (k, w) :: l, e => by
    rw [List.lookup_cons] at e
    cases q : x == k with
    | true =>
      rw [q] at e
      cases e
      rw [eq_of_beq q]
      exact List.mem_cons_self
    | false =>
      rw [q] at e
      exact List.mem_cons_of_mem _ (mem_lookup_ e)
theorem gd_of (X : K.In h) (G : h.Ns mainGlobals mg) (facts : ∀ f ∈ I.fa, f.ok K = true) (wf : I.wf = true) : Gd I.P (I.ad K) K mg := by
  unfold Inst.wf at wf
  simp only [Bool.and_eq_true, List.all_eq_true, decide_eq_true_eq] at wf
  obtain ⟨w1, w2, w3⟩ := wf
  have m1 : ∀ f ∈ I.P.defs, He.Fa.glo (Str.ofString f) ∈ I.fa := fun f hf => by
    unfold Inst.fa
    simp only [List.mem_append, List.mem_map]
    exact .inl (.inl (.inl (.inl ⟨f, hf, rfl⟩)))
  have m2 : ∀ f ∈ I.P.defs, He.Fa.keep (Str.ofString f) ∈ I.fa := fun f hf => by
    unfold Inst.fa
    simp only [List.mem_append, List.mem_map]
    exact .inl (.inl (.inl (.inr ⟨f, hf, rfl⟩)))
  have m3 : ∀ f ∈ bltN, He.Fa.free (Str.ofString f) ∈ I.fa := fun f hf => by
    unfold Inst.fa
    simp only [List.mem_append, List.mem_map]
    exact .inl (.inl (.inr ⟨f, hf, rfl⟩))
  have m4 : ∀ p ∈ I.P.glob, globFa p ∈ I.fa := fun p hp => by
    unfold Inst.fa
    simp only [List.mem_append, List.mem_map]
    exact .inl (.inr ⟨p, hp, rfl⟩)
  have m5 : ∀ c ∈ I.P.cls, ∀ f ∈ clsFa c, f ∈ I.fa := fun c hc f hf => by
    unfold Inst.fa
    simp only [List.mem_append, List.mem_flatMap]
    exact .inr ⟨c, hc, hf⟩
  refine ⟨fun x v e => ?_, fun x hx => He.free_ok X G (facts _ (m3 x hx)), fun f hf => ?_, fun c k e => ?_⟩
  · have hm := mem_lookup_ e
    have hw := w2 _ hm
    have hf := facts _ (m4 _ hm)
    cases v with
    | int i =>
      obtain ⟨t, ht⟩ := He.int_ok X G hf
      exact ⟨.int i, .int i t, ht, ⟨t, rfl⟩, fun W => .int i⟩
    | str s =>
      obtain ⟨t, ht⟩ := He.str_ok X G hf
      refine ⟨.str ⟨s.toArray⟩, .str ⟨s.toArray⟩ t, ht, ⟨t, rfl⟩, fun W => .str s fun c hc => ?_⟩
      exact of_decide_eq_true (List.all_eq_true.mp (show (s.all fun c => decide (c < 1114112)) = true from hw) c hc)
    | _ => cases hw
  · rw [ad_some (w1 f hf)]
    exact ⟨He.glo_ok X G (facts _ (m1 f hf)), He.keep_ok (facts _ (m2 f hf))⟩
  · have hm := mem_lookup_ e
    have hw := w3 _ hm
    unfold okCls at hw
    simp only [Bool.and_eq_true, List.all_eq_true, decide_eq_true_eq] at hw
    obtain ⟨q1, q2, q3⟩ := hw
    have hfa := m5 _ hm
    rw [ad_none q1, ad_some q2]
    refine ⟨He.glo_ok X G (facts _ (hfa _ (by simp [clsFa]))), He.cls_ok (facts _ (hfa _ (by simp [clsFa]))), He.mkr_ok (facts _ (hfa _ (by simp [clsFa]))), fun f hf => ?_, fun m g hg => ?_⟩
    · refine He.noat_ok (facts _ (hfa _ ?_))
      have hf' : f ∈ k.fields := by simpa using hf
      simp only [clsFa, List.mem_append, List.mem_map]
      exact .inl (.inr ⟨f, hf', rfl⟩)
    · have hmm := mem_lookup_ hg
      rw [ad_some (q3 _ hmm)]
      refine He.meth_ok (facts _ (hfa _ ?_))
      simp only [clsFa, List.mem_append, List.mem_map]
      exact .inr ⟨_, hmm, rfl⟩
theorem all_G {prog : Program} {w : World} {base : Heap} (gd : Gd I.P (I.ad K) K mg) (hz : okZip I I.P.fns I.fn = true) (hf : ∀ d ∈ I.fn, ∃ fd, FunD K d.name d.qual d.params d.body d.scope (d.dvs K) (d.kws K) (He.fAd K d.at_) fd) : ∀ (n : Nat) (f : String), FnG (I.ad K) (callF I.P n) n prog w K mg base f
  | 0, f => fnG_zero
  | n + 1, f => by
    cases e : I.P.fns.lookup f with
    | none => exact fnG_none e
    | some fn =>
      obtain ⟨d, hd, z⟩ := okZip_mem hz e
      unfold okDef at z
      simp only [Bool.and_eq_true, decide_eq_true_eq] at z
      obtain ⟨z1, z2, z3, z4⟩ := z
      obtain ⟨fd, F⟩ := hf d hd
      rw [← ad_some (K := K) z1] at F
      obtain ⟨k1, k2⟩ := kwdsB_ok (K := K) (ad := I.ad K) z3
      exact fn_G e F z4 (fun W => dvsB_ok W z2) k1 k2 gd (all_G gd hz hf n)
/-! ### the law -/
/-- the world in which the script alone stands -/
theorem rel_script {ad : String → Addr} {H : Hp} {a : Addr} {ns : List Int} (h : SqL K H a (ns.map V.int)) : ∃ W : Wd, Rel K ad W [] H ∧ VR K ad W (.scr ns) (.ref a) := by
  rcases h with h | h
  · refine ⟨⟨fun b => if b = a then some (.lst (ns.map V.int)) else none, [], []⟩, ⟨rfl, List.nodup_nil, fun b o e => ?_, fun b C dx fs e => ?_, fun n b o e => (by cases e), fun n b o e => (by cases e), fun p hp => (by cases hp)⟩, .scr ns (.inl (if_pos rfl))⟩
    · have e' : (if b = a then some (HO.lst (ns.map V.int)) else none) = some o := e
      by_cases z : b = a
      · rw [if_pos z] at e'
        cases e'
        subst z
        exact h
      · rw [if_neg z] at e'
        cases e'
    · have e' : (if b = a then some (HO.lst (ns.map V.int)) else none) = some (HO.ins C dx fs) := e
      by_cases z : b = a
      · rw [if_pos z] at e'
        cases e'
      · rw [if_neg z] at e'
        cases e'
  · exact ⟨⟨fun _ => none, [], []⟩, ⟨rfl, List.nodup_nil, fun b o e => (by cases e), fun b C dx fs e => (by cases e), fun n b o e => (by cases e), fun n b o e => (by cases e), fun p hp => (by cases hp)⟩, .scr ns (.inr h)⟩
/-- the law's call, seen from outside -/
theorem call_law {prog : Program} {w : World} {base : Heap} {n : Nat} {H : Hp} {a : Addr} {ns : List Int} {s : Shared} (F : FnG (I.ad K) (callF I.P (n + 1)) (n + 1) prog w K mg base "law") (hr : Room (2 * (n + 1)) callerA) (e0 : Env0 prog w K mg base callerA [] s H) (sq : SqL K H a (ns.map V.int))
    (hlaw : wp (callF I.P (n + 1) "law" [.scr ns] []) [] fun v _ => v = .bl true) : codeAny (model prog w) callerA (.call (.ref (I.ad K "law")) ⟨[.ref a], []⟩) (CR (L2.CX prog w) [] prog w H s (fun v _ => v = .bl true) fun _ _ _ => False) s := by
  obtain ⟨W, rl, qv⟩ := rel_script (ad := I.ad K) sq
  refine F callerA [] s H [.ref a] [] [.ref a] [] [] _ _ ⟨hr, rfl⟩ e0 (.cons rfl .nil) .nil ⟨W, [], [.scr ns], [], rl, .cons qv .nil, .nil, ?_⟩
  show Post K (I.ad K) (VR K (I.ad K)) _ W [] _ (callF I.P (n + 1) "law" [.scr ns] [] [])
  unfold wp at hlaw
  cases e : callF I.P (n + 1) "law" [.scr ns] [] [] with
  | ok v h' =>
    rw [e] at hlaw
    have hlaw' : v = .bl true := hlaw
    subst hlaw'
    intro W' r H' le rl' q
    cases q
    rfl
  | exc x h' => rw [e] at hlaw; exact hlaw.elim
  | bad => rw [e] at hlaw; exact hlaw.elim
theorem end_law {prog : Program} {w : World} {mb : Str → Option Value} {a : Addr} {s : Shared} {vs : List Value} {ns : List Int} {fa : Addr}
    (KX : K.In s.heap) (gns : s.heap.Ns mainGlobals mg) (bns : s.heap.Ns builtinsNs mb) (bb : ∀ x : Str, x ≠ "__name__" → mb x = bootBuiltins x) (lim : s.heap.NoLimit) (gen : s.gens = #[]) (la : s.heap.get? a = some { cls := .type "list", data := .seq vs.toArray }) (hin : IntsAre vs ns) (hl : ns.length ≤ sizeLine)
    (F : ∀ (base : Heap) (H : Hp), Env0 prog w K mg base callerA [] s H → SqL K H a (ns.map V.int) → codeAny (model prog w) callerA (.call (.ref fa) ⟨[.ref a], []⟩) (CR (L2.CX prog w) [] prog w H s (fun v _ => v = .bl true) fun _ _ _ => False) s) :
    codeAny (model prog w) callerA (.call (.ref fa) ⟨[.ref a], []⟩) (fun r s' => r = .ok (.ret (.bool true)) ∧ OldK s.heap s'.heap ∧ s'.os = s.os ∧ AllBare s'.gens) s := by
  have vv := vals_ints hin
  have ll := hin.length
  generalize hob : ({ cls := .type "list", data := .seq vs.toArray } : Obj) = ob at la
  have main : ∀ H : Hp, (∀ b u, H b = some u → b = a ∧ u = .frz ob (.lst (ns.map V.int))) → (H a = none ∨ K.lookup a = none) → SqL K H a (ns.map V.int) →
      codeAny (model prog w) callerA (.call (.ref fa) ⟨[.ref a], []⟩) (fun r s' => r = .ok (.ret (.bool true)) ∧ OldK s.heap s'.heap ∧ s'.os = s.os ∧ AllBare s'.gens) s := by
    intro H o1 o2 sq
    have hokH : HOk prog w H s.heap := fun b u z => by
      obtain ⟨z1, z2⟩ := o1 b u z
      subst z1
      subst z2
      exact ⟨la, by rw [List.length_map]; exact hl, vs, _, vv, by rw [la, ← hob]⟩
    have dictH : ∀ {b : Addr} {o : Obj} {es : Array DictEntry} {ep : Nat}, s.heap.get? b = some o → o.data = .dict es ep → H b = none := fun {b o es ep} e d => by
      cases q : H b with
      | none => rfl
      | some u =>
        have z := (o1 b u q).1
        subst z
        rw [la] at e
        cases e
        rw [← hob] at d
        cases d
    have hid : ∀ {b : Addr} {o : Obj}, s.heap.get? b = some o → H b = none → (hidT s.heap H).get? b = some o := fun e n => hidT_get e n
    have hidNs : ∀ {b : Addr} {m : Str → Option Value}, s.heap.Ns b m → (hidT s.heap H).Ns b m := fun {b m} z => by
      obtain ⟨o, es, ep, e, d, r⟩ := z
      exact ⟨o, es, ep, hid e (dictH e d), d, r⟩
    have KB : K.In (hidT s.heap H) := fun b o e => hid (KX b o e) (by
      cases q : H b with
      | none => rfl
      | some u =>
        have z := (o1 b u q).1
        subst z
        rcases o2 with y | y
        · rw [q] at y; cases y
        · rw [e] at y; cases y)
    have MD : Mod K mg (hidT s.heap H) := ⟨KB, hidNs gns, ⟨mb, hidNs bns, bb⟩, by
      obtain ⟨mc, y1, y2⟩ := lim
      exact ⟨mc, hidNs y1, y2⟩⟩
    have e0 : Env0 prog w K mg (hidT s.heap H) callerA [] s H := ⟨rfl, MD, fun b o e => of_hidT e, Nat.le_of_eq (hidT_size _ _), trivial, fun b hb => absurd (show b ∈ ([] : List Addr) from hb) (by simp), hokH, .of_eq gen⟩
    refine codeAny_mono (F _ H e0 sq) fun r s' q => ?_
    cases r with
    | error e =>
      obtain ⟨_, _, _, _, _, _, _, _, _, _, _, _, z⟩ := q
      exact z.elim
    | ok fl =>
      cases fl with
      | next => exact False.elim q
      | brk => exact False.elim q
      | cont => exact False.elim q
      | ret u =>
        obtain ⟨v, H', os, bare, un, hok', rv, qv⟩ := q
        have qv' : v = .bl true := qv
        subst qv'
        obtain rfl : u = Value.bool true := rv
        refine ⟨rfl, OldK.of_keep fun b o e => ?_, os, bare⟩
        cases y : H b with
        | none => exact un.keep b o e y (by intro z; cases z) (by simp)
        | some u =>
          obtain ⟨z1, z2⟩ := o1 b u y
          subst z1
          subst z2
          obtain ⟨t1, _⟩ := hok' b _ (un.frzs b ob _ y)
          rw [la] at e
          cases e
          exact t1
  by_cases hk : ∃ o, K.lookup a = some o
  · obtain ⟨o, hk⟩ := hk
    have e := KX a o hk
    rw [la] at e
    cases e
    rw [← hob] at hk
    exact main (fun _ => none) (fun b u z => by cases z) (.inl rfl) (.inr ⟨_, vs.toArray, _, hk, rfl, rfl, rfl, by rw [List.size_toArray]; omega, by simpa using vv⟩)
  · have hk' : K.lookup a = none := by
      cases q : K.lookup a with
      | none => rfl
      | some o => exact absurd ⟨o, q⟩ hk
    refine main (fun b => if b = a then some (.frz ob (.lst (ns.map V.int))) else none) (fun b u z => ?_) (.inr hk') (.inl (.inr ⟨ob, if_pos rfl⟩))
    by_cases y : b = a
    · have z' : (if b = a then some (HO.frz ob (.lst (ns.map V.int))) else none) = some u := z
      rw [if_pos y] at z'
      cases z'
      exact ⟨y, rfl⟩
    · have z' : (if b = a then some (HO.frz ob (.lst (ns.map V.int))) else none) = some u := z
      rw [if_neg y] at z'
      cases z'
end
theorem facts_of {fa : List He.Fa} {fn : List He.DefD} {K : PySem.W.Frag} (c : He.SaysD fa fn K) : ∀ f ∈ fa, f.ok K = true := fun f hf => by
  have z : ((fa.all fun f => f.ok K) && fn.all fun d => d.ok K) = true := congrArg Prod.fst c
  exact List.all_eq_true.mp (Bool.and_eq_true_iff.mp z).1 f hf
/-- the law, walked -/
theorem law_walk {I : Inst} {l : PySem.W.OpenLaw} {N : Nat} {q : Program} {loose : List Str} {XP : (Str → Option Value) → Heap → Prop} {YP : World → Heap → Prop} {d : DefRec} (hn : l.most = some 63) (hdf : d.params.defaults = []) (hr : Room (2 * (N + 1)) callerA)
    (Y : ∀ w h, YP w h → ∃ K : PySem.W.Frag, K.In h ∧ (∀ f ∈ I.fa, f.ok K = true) ∧ ∀ d ∈ I.fn, ∃ fd, FunD K d.name d.qual d.params d.body d.scope (d.dvs K) (d.kws K) (He.fAd K d.at_) fd)
    (hname : d.name = ("law" : Str)) (hlaw : "law" ∈ I.P.defs) (wf : I.wf = true) (hz : okZip I I.P.fns I.fn = true) (pure_ : ∀ ns : List Int, ns.length ≤ 63 → wp (callF I.P (N + 1) "law" [.scr ns] []) [] fun v _ => v = .bl true) :
    PySem.W.WalkO q loose XP YP l.row.toRowW d [] (fun f vs => PySem.call f vs) := by
  refine Att.attach_call hn hdf fun w s₀ s₁ mg mb fa o pm cd doc a vs ns G y ho hd hcd hmg hobj hints hlen hg => ?_
  obtain ⟨K, KX, facts, defs⟩ := Y w _ y
  have gd := gd_of KX G.T.g facts wf
  have e := (gd.fn "law" hlaw).1
  rw [hname] at hmg
  rw [show Str.ofString "law" = ("law" : Str) from rfl, hmg] at e
  cases e
  refine end_law KX G.T.g G.T.b G.T.builtins G.T.nolimit hg hobj hints (Nat.le_trans hlen (by rw [sizeLine_eq]; decide)) fun base H e0 sq => ?_
  exact call_law (all_G gd hz defs (N + 1) "law") hr e0 sq (pure_ ns hlen)
end Mn

set_option Elab.async false
set_option linter.all false
set_option maxRecDepth 100000
set_option maxHeartbeats 4000000
/-! Mini, part 18: running the interpreter by rewriting (wp of each form); the draws of a law. -/
namespace Mn
/-- a value that must be a truth -/
def wpB (x : LV) (K : Bool → Prop) : Prop := match x with
  | .bl b => K b
  | _ => False
def wpO (o : Option (Option LV)) (K : LV → Prop) : Prop := match o with
  | some (some v) => K v
  | _ => False
def wpT (x : LV) (K : List LV → Prop) : Prop := match x with
  | .tup xs => K xs
  | _ => False
def wpI (x : LV) (K : Int → Prop) : Prop := match x with
  | .int i => K i
  | _ => False
theorem wpI_int {i : Int} {K : Int → Prop} : wpI (.int i) K ↔ K i := Iff.rfl
theorem wpB_bl {b : Bool} {K : Bool → Prop} : wpB (.bl b) K ↔ K b := Iff.rfl
theorem wpO_some {v : LV} {K : LV → Prop} : wpO (some (some v)) K ↔ K v := Iff.rfl
theorem wpT_tup {xs : List LV} {K : List LV → Prop} : wpT (.tup xs) K ↔ K xs := Iff.rfl
theorem wp_toB {x : LV} {h : Hh} {Q : Bool → Hh → Prop} : wp (toB x) h Q ↔ wpB x fun b => Q b h := by cases x <;> rfl
theorem wp_tupV {x : LV} {h : Hh} {Q : List LV → Hh → Prop} : wp (tupV x) h Q ↔ wpT x fun b => Q b h := by cases x <;> rfl
section
variable {P : Prog} {cf : CF} {env : Env} {h : Hh} {Q : LV → Hh → Prop}
theorem w_loc {i : Nat} : wp (evE P cf (.loc i) env) h Q ↔ wpO env[i]? fun v => Q v h := by
  rw [evE]
  cases env[i]? with
  | none => exact Iff.rfl
  | some o => cases o <;> exact Iff.rfl
theorem w_cst {v : LV} : wp (evE P cf (.cst v) env) h Q ↔ Q v h := by rw [evE]; exact Iff.rfl
theorem w_glo {x : String} : wp (evE P cf (.glo x) env) h Q ↔ wpO ((P.glob.lookup x).map some) fun v => Q v h := by
  rw [evE]
  cases P.glob.lookup x <;> exact Iff.rfl
theorem w_bin {op : BOp} {a b : E} : wp (evE P cf (.bin op a b) env) h Q ↔ wp (evE P cf a env) h fun x h1 => wp (evE P cf b env) h1 fun y h2 => wp (binV op x y) h2 Q := by
  rw [evE]
  simp only [wp_bind]
theorem w_not {a : E} : wp (evE P cf (.not a) env) h Q ↔ wp (evE P cf a env) h fun x h1 => wpB x fun b => Q (.bl (!b)) h1 := by
  rw [evE]
  simp only [wp_bind, wp_toB, wp_pure']
theorem w_and {a b : E} : wp (evE P cf (.and a b) env) h Q ↔ wp (evE P cf a env) h fun x h1 => wpB x fun t => (t = true → wp (evE P cf b env) h1 Q) ∧ (t = false → Q (.bl false) h1) := by
  rw [evE]
  simp only [wp_bind, wp_toB]
  apply iff_of_eq
  congr 1
  funext x h1
  cases x <;> try rfl
  rename_i t
  simp only [wpB_bl]
  cases t <;> simp [wp_pure']
theorem w_or {a b : E} : wp (evE P cf (.or a b) env) h Q ↔ wp (evE P cf a env) h fun x h1 => wpB x fun t => (t = true → Q (.bl true) h1) ∧ (t = false → wp (evE P cf b env) h1 Q) := by
  rw [evE]
  simp only [wp_bind, wp_toB]
  apply iff_of_eq
  congr 1
  funext x h1
  cases x <;> try rfl
  rename_i t
  simp only [wpB_bl]
  cases t <;> simp [wp_pure']
theorem w_ite {c a b : E} : wp (evE P cf (.ite c a b) env) h Q ↔ wp (evE P cf c env) h fun x h1 => wpB x fun t => (t = true → wp (evE P cf a env) h1 Q) ∧ (t = false → wp (evE P cf b env) h1 Q) := by
  rw [evE]
  simp only [wp_bind, wp_toB]
  apply iff_of_eq
  congr 1
  funext x h1
  cases x <;> try rfl
  rename_i t
  simp only [wpB_bl]
  cases t <;> simp
theorem w_cmp {op : COp} {a b : E} : wp (evE P cf (.cmp op a b) env) h Q ↔ wp (evE P cf a env) h fun x h1 => wp (evE P cf b env) h1 fun y h2 => wp (cmpV op x y) h2 fun r h3 => Q (.bl r) h3 := by
  rw [evE]
  simp only [wp_bind, wp_pure']
theorem w_chain {op op' : COp} {a b c : E} : wp (evE P cf (.chain op op' a b c) env) h Q ↔ wp (evE P cf a env) h fun x h1 => wp (evE P cf b env) h1 fun y h2 => wp (cmpV op x y) h2 fun r h3 => (r = true → wp (evE P cf c env) h3 fun z h4 => wp (cmpV op' y z) h4 fun r h5 => Q (.bl r) h5) ∧ (r = false → Q (.bl false) h3) := by
  rw [evE]
  simp only [wp_bind]
  apply iff_of_eq
  congr 1
  funext x h1
  congr 1
  funext y h2
  congr 1
  funext r h3
  cases r <;> simp [wp_bind, wp_pure']
theorem w_repr {a b : E} : wp (evE P cf (.reprEq a b) env) h Q ↔ wp (evE P cf a env) h fun x h1 => wp (reprD x) h1 fun s h2 => wp (evE P cf b env) h2 fun y h3 => wp (reprD y) h3 fun t h4 => Q (.bl (decide (s = t))) h4 := by
  rw [evE]
  simp only [wp_bind, wp_pure']
theorem w_neg {a : E} : wp (evE P cf (.neg a) env) h Q ↔ wp (evE P cf a env) h fun x h1 => wp (negV x) h1 Q := by
  rw [evE]
  simp only [wp_bind]
theorem w_call {f : String} {es kes : Es} {ks : List String} : wp (evE P cf (.call f es ks kes) env) h Q ↔ wp (evs P cf es env) h fun xs h1 => wp (evs P cf kes env) h1 fun ys h2 => wp (cf f xs (ks.zip ys)) h2 Q := by
  rw [evE]
  simp only [wp_bind]
theorem w_bcall {f : BFn} {es : Es} : wp (evE P cf (.bcall f es) env) h Q ↔ wp (evs P cf es env) h fun xs h1 => wp (bcallV f xs) h1 Q := by
  rw [evE]
  simp only [wp_bind]
theorem w_meth {o : E} {m : String} {es kes : Es} {ks : List String} : wp (evE P cf (.meth o m es ks kes) env) h Q ↔ wp (evE P cf o env) h fun x h0 => wp (methM P x m) h0 fun f h0 => wp (evs P cf es env) h0 fun xs h1 => wp (evs P cf kes env) h1 fun ys h2 => wp (cf f (x :: xs) (ks.zip ys)) h2 Q := by
  rw [evE]
  simp only [wp_bind]
theorem w_bmeth {o : E} {m : BMth} {es : Es} : wp (evE P cf (.bmeth o m es) env) h Q ↔ wp (evE P cf o env) h fun x h0 => wp (chkM m x) h0 fun _ h0 => wp (evs P cf es env) h0 fun xs h1 => wp (bmethV m x xs) h1 Q := by
  rw [evE]
  simp only [wp_bind]
theorem w_attr {o : E} {f : String} : wp (evE P cf (.attr o f) env) h Q ↔ wp (evE P cf o env) h fun x h1 => wp (getA P x f) h1 Q := by
  rw [evE]
  simp only [wp_bind]
theorem w_sub {o i : E} : wp (evE P cf (.sub o i) env) h Q ↔ wp (evE P cf o env) h fun x h1 => wp (evE P cf i env) h1 fun y h2 => wp (subV x y) h2 Q := by
  rw [evE]
  simp only [wp_bind]
theorem w_slice {o : E} {lo hi : Es} : wp (evE P cf (.slice o lo hi) env) h Q ↔ wp (evE P cf o env) h fun x h1 => wp (evs P cf lo env) h1 fun l h2 => ∃ l', part l = some l' ∧ wp (evs P cf hi env) h2 fun u h3 => ∃ u', part u = some u' ∧ wp (sliceV x l' u') h3 Q := by
  rw [evE]
  simp only [wp_bind, wp_ofOpt]
theorem w_tup {es : Es} : wp (evE P cf (.tup es) env) h Q ↔ wp (evs P cf es env) h fun xs h1 => wp (mkT xs) h1 Q := by
  rw [evE]
  simp only [wp_bind]
theorem w_list {mu : Bool} {es : Es} : wp (evE P cf (.list mu es) env) h Q ↔ wp (evs P cf es env) h fun xs h1 => wp (mkL mu xs) h1 Q := by
  rw [evE]
  simp only [wp_bind]
theorem w_comp {mu : Bool} {own : List Nat} {elt : E} {tg : T} {it : I} {cond : Es} : wp (evE P cf (.comp mu own elt tg it cond) env) h Q ↔ wp (evI P cf it env) h fun w h1 => wp (noX (compL w.2 (bindT P cf tg) (fun e => evConds P cf cond e) (fun e => evE P cf elt e) (wipeE env own) w.1 [])) h1 fun xs h2 => wp (mkL mu xs) h2 Q := by
  rw [evE]
  simp only [wp_bind]
theorem w_frz {e : E} : wp (evE P cf (.frz e) env) h Q ↔ wp (evE P cf e env) h fun x h1 => wp (frzV DEEP x) h1 Q := by
  rw [evE]
  simp only [wp_bind]
theorem w_lenO {o : E} : wp (evE P cf (.lenO o) env) h Q ↔ wp (evE P cf o env) h fun x h0 => wp (methM P x "__len__") h0 fun f h1 => wp (cf f [x] []) h1 fun r h2 => wp (lenC r) h2 Q := by
  rw [evE]
  simp only [wp_bind]
theorem ws_nil {R : List LV → Hh → Prop} : wp (evs P cf .nil env) h R ↔ R [] h := by rw [evs]; exact Iff.rfl
theorem ws_cons {e : E} {r : Es} {R : List LV → Hh → Prop} : wp (evs P cf (.cons e r) env) h R ↔ wp (evE P cf e env) h fun x h1 => wp (evs P cf r env) h1 fun xs h2 => R (x :: xs) h2 := by
  rw [evs]
  simp only [wp_bind, wp_pure']
theorem ws_star {e : E} {r : Es} {R : List LV → Hh → Prop} : wp (evs P cf (.star e r) env) h R ↔ wp (evE P cf e env) h fun x h1 => wp (seqM x) h1 fun ys h2 => wp (evs P cf r env) h2 fun xs h3 => R (ys ++ xs) h3 := by
  rw [evs]
  simp only [wp_bind, wp_pure']
theorem wc_nil {R : Bool → Hh → Prop} : wp (evConds P cf .nil env) h R ↔ R true h := by rw [evConds]; exact Iff.rfl
theorem wc_one {e : E} {R : Bool → Hh → Prop} : wp (evConds P cf (.cons e .nil) env) h R ↔ wp (evE P cf e env) h fun x h1 => wpB x fun b => R b h1 := by
  rw [evConds]
  simp only [wp_bind, wp_toB]
theorem wi_seq {e : E} {R : Wk → Hh → Prop} : wp (evI P cf (.seq e) env) h R ↔ wp (evE P cf e env) h fun x h1 => wp (walkV x) h1 R := by
  rw [evI]
  simp only [wp_bind]
theorem wi_range1 {a : E} {R : Wk → Hh → Prop} : wp (evI P cf (.range1 a) env) h R ↔ wp (evE P cf a env) h fun x h1 => wpI x fun j => rangeOk 0 j = true ∧ R (rangeL 0 j, fun _ => true) h1 := by
  rw [evI]
  simp only [wp_bind]
  apply iff_of_eq
  congr 1
  funext x h1
  cases x <;> first | rfl | skip
  simp only [wp_bind, wp_chk, wpI_int, wp_pure']
theorem wi_range2 {a b : E} {R : Wk → Hh → Prop} : wp (evI P cf (.range2 a b) env) h R ↔ wp (evE P cf a env) h fun x h1 => wp (evE P cf b env) h1 fun y h2 => wpI x fun i => wpI y fun j => rangeOk i j = true ∧ R (rangeL i j, fun _ => true) h2 := by
  rw [evI]
  simp only [wp_bind]
  apply iff_of_eq
  congr 1
  funext x h1
  congr 1
  funext y h2
  cases x <;> first | rfl | skip
  all_goals (cases y <;> first | rfl | skip)
  simp only [wp_bind, wp_chk, wpI_int, wp_pure']
theorem wi_enum {e : E} {R : Wk → Hh → Prop} : wp (evI P cf (.enum e) env) h R ↔ wp (evE P cf e env) h fun x h1 => wp (lstM x) h1 fun ys h2 => R (enumL 0 ys, still x ys) h2 := by
  rw [evI]
  simp only [wp_bind, wp_pure']
theorem wi_zip {a b : E} {R : Wk → Hh → Prop} : wp (evI P cf (.zip a b) env) h R ↔ wp (evE P cf a env) h fun x h1 => wp (evE P cf b env) h1 fun y h2 => wp (lstM x) h2 fun xs h3 => wp (lstM y) h3 fun ys h4 => R (zipL xs ys, fun h => still x xs h && still y ys h) h4 := by
  rw [evI]
  simp only [wp_bind, wp_pure']
theorem wt_nm {i : Nat} {v : LV} {R : Env → Hh → Prop} : wp (bindT P cf (.nm i) v env) h R ↔ R (env.set i (some v)) h := by rw [bindT]; exact Iff.rfl
theorem wt_tup {ts : Ts} {v : LV} {R : Env → Hh → Prop} : wp (bindT P cf (.tup ts) v env) h R ↔ wpT v fun xs => xs.length = lenT ts ∧ wp (bindTs P cf ts xs env) h R := by
  rw [bindT]
  simp only [wp_bind, wp_tupV, wp_chk, decide_eq_true_eq]
theorem wt_attr {o : E} {f : String} {v : LV} {R : Env → Hh → Prop} : wp (bindT P cf (.attr o f) v env) h R ↔ wp (evE P cf o env) h fun x h1 => wp (setA P x f v) h1 fun _ h2 => R env h2 := by
  rw [bindT]
  simp only [wp_bind, wp_pure']
theorem wt_sub {o i : E} {v : LV} {R : Env → Hh → Prop} : wp (bindT P cf (.sub o i) v env) h R ↔ wp (evE P cf o env) h fun x h1 => wp (evE P cf i env) h1 fun y h2 => wp (setV x y v) h2 fun _ h3 => R env h3 := by
  rw [bindT]
  simp only [wp_bind, wp_pure']
theorem wts_nil {R : Env → Hh → Prop} : wp (bindTs P cf .nil [] env) h R ↔ R env h := by rw [bindTs]; exact Iff.rfl
theorem wts_cons {t : T} {r : Ts} {v : LV} {vs : List LV} {R : Env → Hh → Prop} : wp (bindTs P cf (.cons t r) (v :: vs) env) h R ↔ wp (bindT P cf t v env) h fun e h1 => wp (bindTs P cf r vs e) h1 R := by
  rw [bindTs]
  simp only [wp_bind]
/-! statements: what is behind a statement, by how it ends -/
variable {R : Fl × Env → Hh → Prop}
theorem x_expr {e : E} : wp (exS P cf (.expr e) env) h R ↔ wp (evE P cf e env) h fun _ h1 => R (.nx, env) h1 := by
  rw [exS]
  simp only [wp_bind, wp_pure']
theorem x_asg {t : T} {e : E} : wp (exS P cf (.asg t e) env) h R ↔ wp (evE P cf e env) h fun x h1 => wp (bindT P cf t x env) h1 fun e2 h2 => R (.nx, e2) h2 := by
  rw [exS]
  simp only [wp_bind, wp_pure']
theorem x_aug {i : Nat} {op : BOp} {e : E} : wp (exS P cf (.aug i op e) env) h R ↔ wpO env[i]? fun x => wp (evE P cf e env) h fun y h1 => wp (augV op x y) h1 fun z h2 => R (.nx, env.set i (some z)) h2 := by
  rw [exS]
  simp only [wp_bind, wp_pure', w_loc]
theorem x_for {t : T} {it : I} {b : Ss} : wp (exS P cf (.forS t it b) env) h R ↔ wp (evI P cf it env) h fun w h1 => wp (forL w.2 (bindT P cf t) (fun e => exSs P cf b e) w.1 env) h1 R := by
  rw [exS]
  simp only [wp_bind]
theorem x_while {c : E} {b : Ss} : wp (exS P cf (.whileS c b) env) h R ↔ wp (whileL (evE P cf c) (fun e => exSs P cf b e) P.wn env) h R := by rw [exS]
theorem x_if {c : E} {a b : Ss} : wp (exS P cf (.ifS c a b) env) h R ↔ wp (evE P cf c env) h fun x h1 => wpB x fun t => (t = true → wp (exSs P cf a env) h1 R) ∧ (t = false → wp (exSs P cf b env) h1 R) := by
  rw [exS]
  simp only [wp_bind, wp_toB]
  apply iff_of_eq
  congr 1
  funext x h1
  cases x <;> try rfl
  rename_i t
  simp only [wpB_bl]
  cases t <;> simp
theorem x_ret {e : E} : wp (exS P cf (.ret e) env) h R ↔ wp (evE P cf e env) h fun x h1 => R (.rt x, env) h1 := by
  rw [exS]
  simp only [wp_bind, wp_pure']
theorem x_retN : wp (exS P cf .retN env) h R ↔ R (.rt .non, env) h := by rw [exS]; exact Iff.rfl
theorem x_pass : wp (exS P cf .pass env) h R ↔ R (.nx, env) h := by rw [exS]; exact Iff.rfl
theorem x_brk : wp (exS P cf .brk env) h R ↔ R (.bk, env) h := by rw [exS]; exact Iff.rfl
theorem x_cont : wp (exS P cf .cont env) h R ↔ R (.ct, env) h := by rw [exS]; exact Iff.rfl
theorem xs_nil : wp (exSs P cf .nil env) h R ↔ R (.nx, env) h := by rw [exSs]; exact Iff.rfl
/-- what is behind the first statement of a block -/
def wpF (x : Fl × Env) (K : Env → Prop) (R : Fl × Env → Prop) : Prop := match x.1 with
  | .nx => K x.2
  | _ => R x
theorem wpF_nx {e : Env} {K : Env → Prop} {R : Fl × Env → Prop} : wpF (.nx, e) K R ↔ K e := Iff.rfl
theorem wpF_rt {v : LV} {e : Env} {K : Env → Prop} {R : Fl × Env → Prop} : wpF (.rt v, e) K R ↔ R (.rt v, e) := Iff.rfl
theorem wpF_bk {e : Env} {K : Env → Prop} {R : Fl × Env → Prop} : wpF (.bk, e) K R ↔ R (.bk, e) := Iff.rfl
theorem wpF_ct {e : Env} {K : Env → Prop} {R : Fl × Env → Prop} : wpF (.ct, e) K R ↔ R (.ct, e) := Iff.rfl
theorem xs_cons {s : S} {r : Ss} : wp (exSs P cf (.cons s r) env) h R ↔ wp (exS P cf s env) h fun x h1 => wpF x (fun e => wp (exSs P cf r e) h1 R) (fun y => R y h1) := by
  rw [exSs]
  simp only [wp_bind]
  apply iff_of_eq
  congr 1
  funext x h1
  obtain ⟨f, e⟩ := x
  cases f <;> rfl
end
section
variable {h : Hh} {Q : LV → Hh → Prop} {R : Bool → Hh → Prop} {i j : Int}
theorem v_add : wp (binV .add (.int i) (.int j)) h Q ↔ Q (.int (i + j)) h := Iff.rfl
theorem v_sub : wp (binV .sub (.int i) (.int j)) h Q ↔ Q (.int (i - j)) h := Iff.rfl
theorem wp_ifok {α : Type} {c : Prop} [Decidable c] {a : α} {R : α → Hh → Prop} : wp (fun h => if c then Res.ok a h else Res.bad) h R ↔ c ∧ R a h := by
  by_cases hc : c <;> simp [wp, hc]
theorem v_mul : wp (binV .mul (.int i) (.int j)) h Q ↔ (smallI i = true ∧ smallI j = true) ∧ Q (.int (i * j)) h := wp_ifok
theorem v_mod : wp (binV .mod (.int i) (.int j)) h Q ↔ 0 < j ∧ Q (.int (i % j)) h := wp_ifok
theorem v_fdiv : wp (binV .fdiv (.int i) (.int j)) h Q ↔ (0 < j ∧ j < BIG) ∧ Q (.int (i / j)) h := wp_ifok
theorem v_pow : wp (binV .pow (.int i) (.int j)) h Q ↔ (0 ≤ j ∧ j ≤ 1000 ∧ i.natAbs ≤ 1000) ∧ Q (.int (i ^ j.toNat)) h := wp_ifok
theorem v_neg : wp (negV (.int i)) h Q ↔ Q (.int (-i)) h := Iff.rfl
theorem v_lt : wp (cmpV .lt (.int i) (.int j)) h R ↔ R (decide (i < j)) h := Iff.rfl
theorem v_le : wp (cmpV .le (.int i) (.int j)) h R ↔ R (decide (i ≤ j)) h := Iff.rfl
theorem v_gt : wp (cmpV .gt (.int i) (.int j)) h R ↔ R (decide (j < i)) h := Iff.rfl
theorem v_ge : wp (cmpV .ge (.int i) (.int j)) h R ↔ R (decide (j ≤ i)) h := Iff.rfl
theorem v_int : wp (bcallV .int [.int i]) h Q ↔ Q (.int i) h := Iff.rfl
theorem v_augadd : wp (augV .add (.int i) (.int j)) h Q ↔ Q (.int (i + j)) h := Iff.rfl
theorem v_augsub : wp (augV .sub (.int i) (.int j)) h Q ↔ Q (.int (i - j)) h := Iff.rfl
/-- a list's or a cell's items, read -/
def wpQ (o : Option (List LV)) (K : List LV → Prop) : Prop := match o with
  | some xs => K xs
  | none => False
theorem wpQ_some {xs : List LV} {K : List LV → Prop} : wpQ (some xs) K ↔ K xs := Iff.rfl
theorem sq_tup {xs : List LV} : seqOf h (.tup xs) = some xs := rfl
theorem sq_lst {xs : List LV} : seqOf h (.lst xs) = some xs := rfl
theorem sq_scr {ns : List Int} : seqOf h (.scr ns) = some (ns.map .int) := rfl
theorem sq_ref {n : Nat} {xs : List LV} (e : h[n]? = some (.lst xs)) : seqOf h (.ref n) = some xs := by
  unfold seqOf view
  dsimp only
  rw [e]
theorem ls_lst {xs : List LV} : lstOf h (.lst xs) = some xs := rfl
theorem ls_ref {n : Nat} {xs : List LV} (e : h[n]? = some (.lst xs)) : lstOf h (.ref n) = some xs := by
  unfold lstOf view
  dsimp only
  rw [e]
theorem dct_no {o : LV} {xs : List LV} (e : seqOf h o = some xs) : dctOf h o = none := by
  unfold dctOf
  cases o with
  | ref n =>
    unfold seqOf view at e
    dsimp only at e ⊢
    split
    · rename_i kvs e2
      rw [e2] at e
      cases e
    · rfl
  | _ => rfl
theorem dct_yes {n : Nat} {kvs : List (LV × LV)} (e : h[n]? = some (.dct kvs)) : dctOf h (.ref n) = some kvs := by
  unfold dctOf
  dsimp only
  rw [e]
theorem v_subD {n : Nat} {kvs : List (LV × LV)} {k v : LV} (e : h[n]? = some (.dct kvs)) (hk : keyB k = true) (e2 : lookD kvs k = some v) (q : Q v h) : wp (subV (.ref n) k) h Q := by
  unfold wp subV
  simp only [dct_yes e, if_pos hk, e2]
  exact q
theorem v_inD {n : Nat} {kvs : List (LV × LV)} {k : LV} (e : h[n]? = some (.dct kvs)) (hk : keyB k = true) (q : R (lookD kvs k).isSome h) : wp (cmpV .inn k (.ref n)) h R := by
  show wp (inM k (.ref n)) h R
  unfold wp inM
  simp only [dct_yes e, if_pos hk]
  exact q
theorem v_ninD {n : Nat} {kvs : List (LV × LV)} {k : LV} (e : h[n]? = some (.dct kvs)) (hk : keyB k = true) (q : R (!(lookD kvs k).isSome) h) : wp (cmpV .nin k (.ref n)) h R := by
  show wp (do let r ← inM k (.ref n); pure (!r)) h R
  rw [wp_bind]
  exact v_inD (R := fun r h => R (!r) h) e hk q
theorem v_setD {n : Nat} {kvs kvs2 : List (LV × LV)} {k v : LV} {R : Unit → Hh → Prop} (e : h[n]? = some (.dct kvs)) (hk : keyB k = true) (hl : kvs.length < line) (e2 : putD kvs k v = kvs2) (q : ∀ h', h' = h.set n (.dct kvs2) → h'[n]? = some (.dct kvs2) → R () h') : wp (setV (.ref n) k v) h R := by
  unfold wp setV
  dsimp only
  rw [e]
  dsimp only
  rw [if_pos ⟨hk, hl⟩, e2]
  exact q _ rfl (List.getElem?_set_self (List.getElem?_eq_some_iff.mp e).1)
theorem v_inS {a b x : LV} {xs ys : List LV} (e : seqOf h b = some xs) (e1 : dat DEEP h a = some x) (e2 : mapO (dat DEEP h) xs = some ys) (q : R (ys.any fun y => eqv y x) h) : wp (cmpV .inn a b) h R := by
  show wp (inM a b) h R
  unfold wp inM
  rw [dct_no e]
  dsimp only
  unfold inM0
  cases b <;> simp only [e, e1, e2] <;> first | exact q | (exfalso; revert e; intro e; cases e)
theorem v_ninS {a b x : LV} {xs ys : List LV} (e : seqOf h b = some xs) (e1 : dat DEEP h a = some x) (e2 : mapO (dat DEEP h) xs = some ys) (q : R (!(ys.any fun y => eqv y x)) h) : wp (cmpV .nin a b) h R := by
  show wp (do let r ← inM a b; pure (!r)) h R
  rw [wp_bind]
  exact v_inS (R := fun r h => R (!r) h) e e1 e2 q
theorem v_eqD {a b x y : LV} (e1 : dat DEEP h a = some x) (e2 : dat DEEP h b = some y) (q : R (eqv x y) h) : wp (cmpV .eq a b) h R := by
  show wp (eqM a b) h R
  unfold wp eqM
  simp only [e1, e2]
  exact q
theorem v_neD {a b x y : LV} (e1 : dat DEEP h a = some x) (e2 : dat DEEP h b = some y) (q : R (!eqv x y) h) : wp (cmpV .ne a b) h R := by
  show wp (do let r ← eqM a b; pure (!r)) h R
  rw [wp_bind]
  exact v_eqD (R := fun r h => R (!r) h) e1 e2 q
theorem v_isN {a : LV} : wp (cmpV .is a .non) h R ↔ R (isN a) h := Iff.rfl
theorem v_isnN {a : LV} : wp (cmpV .isn a .non) h R ↔ R (!isN a) h := Iff.rfl
theorem v_isB {a b : Bool} : wp (cmpV .is (.bl a) (.bl b)) h R ↔ R (decide (a = b)) h := Iff.rfl
theorem v_isnB {a b : Bool} : wp (cmpV .isn (.bl a) (.bl b)) h R ↔ R (!decide (a = b)) h := Iff.rfl
theorem w_dict1 {P : Prog} {cf : CF} {env : Env} {k v : E} : wp (evE P cf (.dict1 k v) env) h Q ↔ wp (evE P cf k env) h fun x h0 => wp (evE P cf v env) h0 fun y h1 => wp (mkD x y) h1 Q := by
  rw [evE]
  simp only [wp_bind]
theorem v_mkD {x y : LV} (hk : keyB x = true) (q : Q (.ref h.length) (h ++ [.dct [(x, y)]])) : wp (mkD x y) h Q := by
  unfold wp mkD
  rw [if_pos hk]
  exact q
theorem w_rev {P : Prog} {cf : CF} {env : Env} {mu : Bool} {o : E} : wp (evE P cf (.rev mu o) env) h Q ↔ wp (evE P cf o env) h fun x h0 => wp (revV mu x) h0 Q := by
  rw [evE]
  simp only [wp_bind]
theorem w_isI {P : Prog} {cf : CF} {env : Env} {k : IK} {o : E} : wp (evE P cf (.isI k o) env) h Q ↔ wp (evE P cf o env) h fun x h0 => wp (isIV k x) h0 fun b h1 => Q (.bl b) h1 := by
  rw [evE]
  simp only [wp_bind, wp_pure']
theorem v_isI {k : IK} {v : LV} {b : Bool} (e : isIV k v h = .ok b h) (q : R b h) : wp (isIV k v) h R := by
  unfold wp
  rw [e]
  exact q
theorem v_sub_sq {o : LV} {xs : List LV} {v : LV} (e : seqOf h o = some xs) (e2 : L2.atI xs i = some v) (q : Q v h) : wp (subV o (.int i)) h Q := by
  unfold wp subV
  rw [dct_no e]
  dsimp only
  unfold subV0
  cases o <;> simp only [e, e2] <;> first | exact q | (exfalso; revert e; intro e; cases e)
theorem v_len {o : LV} {xs : List LV} (e : seqOf h o = some xs) (q : Q (.int xs.length) h) : wp (bcallV .len [o]) h Q := by
  unfold wp bcallV
  cases o <;> simp only [e] <;> first | exact q | (exfalso; revert e; intro e; cases e)
theorem v_lenS {s : List Nat} (e : s.length ≤ line) (q : Q (.int s.length) h) : wp (bcallV .len [.str s]) h Q := wp_ifok.mpr ⟨e, q⟩
theorem v_subS {s : List Nat} {c : Nat} (e : s.length ≤ line) (e2 : L2.atI s i = some c) (q : Q (.str [c]) h) : wp (subV (.str s) (.int i)) h Q := by
  show wp (subV0 (.str s) (.int i)) h Q
  unfold wp subV0
  simp only [if_pos e, e2]
  exact q
theorem v_set {n : Nat} {xs : List LV} {v : LV} {k : Nat} {R : Unit → Hh → Prop} (e : h[n]? = some (.lst xs)) (e2 : L2.ixN xs.length i = some k) (q : R () (h.set n (.lst (xs.set k v)))) : wp (setV (.ref n) (.int i) v) h R := by
  unfold wp setV
  dsimp only
  rw [e]
  dsimp only
  unfold setV0
  simp only [e, e2]
  exact q
theorem v_set1 {n : Nat} {xs ys : List LV} {v : LV} {k : Nat} {R : Unit → Hh → Prop} (e : h[n]? = some (.lst xs)) (e2 : L2.ixN xs.length i = some k) (e3 : xs.set k v = ys) (q : ∀ h', h' = h.set n (.lst ys) → h'[n]? = some (.lst ys) → R () h') : wp (setV (.ref n) (.int i) v) h R := by
  refine v_set e e2 ?_
  rw [e3]
  exact q _ rfl (List.getElem?_set_self (List.getElem?_eq_some_iff.mp e).1)
theorem imp2 {b : Bool} {A B : Prop} (h1 : b = true → A) (h2 : b = false → B) : (b = true → A) ∧ (b = false → B) := ⟨h1, h2⟩
theorem dec2 {p : Prop} [Decidable p] {A B : Prop} (h1 : p → A) (h2 : ¬ p → B) : (decide p = true → A) ∧ (decide p = false → B) := ⟨fun z => h1 (of_decide_eq_true z), fun z => h2 (of_decide_eq_false z)⟩
theorem dec_t {b : Bool} {A B : Prop} (e : b = true) (h1 : A) : (b = true → A) ∧ (b = false → B) := ⟨fun _ => h1, fun z => (by rw [e] at z; cases z)⟩
theorem dec_f {b : Bool} {A B : Prop} (e : b = false) (h1 : B) : (b = true → A) ∧ (b = false → B) := ⟨fun z => (by rw [e] at z; cases z), fun _ => h1⟩
theorem v_mkT {xs : List LV} : wp (mkT xs) h Q ↔ xs.length ≤ line ∧ Q (.tup xs) h := wp_ifok
theorem v_mkF {xs : List LV} : wp (mkL false xs) h Q ↔ xs.length ≤ line ∧ Q (.lst xs) h := wp_ifok
theorem v_mkM {xs : List LV} : wp (mkL true xs) h Q ↔ xs.length ≤ line ∧ Q (.ref h.length) (h ++ [.lst xs]) := by
  show wp (fun h => if xs.length ≤ line then Res.ok (LV.ref h.length) (h ++ [.lst xs]) else Res.bad) h Q ↔ _
  by_cases c : xs.length ≤ line <;> simp [wp, c]
theorem v_slScr {ns : List Int} {lo hi : Option Int} : wp (sliceV (.scr ns) lo hi) h Q ↔ Q (.lst ((cut ns lo hi).map .int)) h := Iff.rfl
theorem v_slTup {xs : List LV} {lo hi : Option Int} : wp (sliceV (.tup xs) lo hi) h Q ↔ Q (.tup (cut xs lo hi)) h := Iff.rfl
theorem v_slLst {xs : List LV} {lo hi : Option Int} : wp (sliceV (.lst xs) lo hi) h Q ↔ Q (.lst (cut xs lo hi)) h := Iff.rfl
theorem v_slStr {s : List Nat} {lo hi : Option Int} : wp (sliceV (.str s) lo hi) h Q ↔ s.length ≤ line ∧ Q (.str (cut s lo hi)) h := wp_ifok
theorem v_list {o : LV} {xs : List LV} (e : seqOf h o = some xs) (q : Q (.lst xs) h) : wp (bcallV .list [o]) h Q := by
  unfold wp bcallV
  simp only [e]
  exact q
theorem v_tuple {o : LV} {xs : List LV} (e : seqOf h o = some xs) (q : Q (.tup xs) h) : wp (bcallV .tuple [o]) h Q := by
  unfold wp bcallV
  simp only [e]
  exact q
theorem v_walk {o : LV} {xs : List LV} {R : Wk → Hh → Prop} (e : seqOf h o = some xs) (q : R (xs, still o xs) h) : wp (walkV o) h R := by
  unfold wp walkV
  cases o <;> simp only [e] <;> first | exact q | (exfalso; revert e; intro e; cases e)
theorem v_walkS {s : List Nat} {R : Wk → Hh → Prop} : wp (walkV (.str s)) h R ↔ R (s.map fun c => .str [c], fun _ => true) h := Iff.rfl
/-- a turn's end -/
def wpL (x : Fl × Env) (K : Env → Prop) (R : Fl × Env → Prop) : Prop := match x.1 with
  | .nx => K x.2
  | .ct => K x.2
  | .bk => R (.nx, x.2)
  | .rt v => R (.rt v, x.2)
theorem wpL_nx {e : Env} {K : Env → Prop} {R : Fl × Env → Prop} : wpL (.nx, e) K R ↔ K e := Iff.rfl
theorem wpL_ct {e : Env} {K : Env → Prop} {R : Fl × Env → Prop} : wpL (.ct, e) K R ↔ K e := Iff.rfl
theorem wpL_bk {e : Env} {K : Env → Prop} {R : Fl × Env → Prop} : wpL (.bk, e) K R ↔ R (.nx, e) := Iff.rfl
theorem wpL_rt {v : LV} {e : Env} {K : Env → Prop} {R : Fl × Env → Prop} : wpL (.rt v, e) K R ↔ R (.rt v, e) := Iff.rfl
theorem wp_chkH {p : Hh → Bool} {R : Unit → Hh → Prop} : wp (chkH p) h R ↔ p h = true ∧ R () h := by
  unfold wp chkH
  by_cases c : p h = true <;> simp [c]
/-- a loop by its invariant -/
theorem for_inv {st : Hh → Bool} {bind : LV → Env → M Env} {body : Env → M (Fl × Env)} {R : Fl × Env → Hh → Prop} (Iv : Nat → Env → Hh → Prop) : ∀ (xs : List LV) (k : Nat) (env : Env) (h : Hh), Iv k env h → (∀ i env h, Iv i env h → st h = true) →
    (∀ i x env h, xs[i]? = some x → Iv (k + i) env h → wp (bind x env) h fun e h1 => wp (body e) h1 fun r h2 => wpL r (fun e2 => Iv (k + i + 1) e2 h2) fun y => R y h2) → (∀ env h, Iv (k + xs.length) env h → R (.nx, env) h) → wp (forL st bind body xs env) h R
  | [], k, env, h, h0, hst, step, done => by
    unfold forL
    rw [wp_bind, wp_chkH]
    exact ⟨hst _ _ _ h0, done env h h0⟩
  | x :: xs, k, env, h, h0, hst, step, done => by
    unfold forL
    rw [wp_bind, wp_chkH]
    refine ⟨hst _ _ _ h0, ?_⟩
    rw [wp_bind]
    refine wp_mono (step 0 x env h rfl h0) fun e h1 q => ?_
    rw [wp_bind]
    refine wp_mono q fun r h2 q2 => ?_
    obtain ⟨f, e2⟩ := r
    have again : Iv (k + 1) e2 h2 → wp (forL st bind body xs e2) h2 R := fun q3 => for_inv Iv xs (k + 1) e2 h2 q3 hst (fun i y env h hy hI => by
      have := step (i + 1) y env h (by simpa using hy) (by rw [show k + (i + 1) = k + 1 + i by omega]; exact hI)
      rw [show k + (i + 1) + 1 = k + 1 + i + 1 by omega] at this
      exact this) fun env h hI => done env h (by rw [List.length_cons, show k + (xs.length + 1) = k + 1 + xs.length by omega]; exact hI)
    cases f with
    | nx => exact again q2
    | ct => exact again q2
    | bk => exact q2
    | rt v => exact q2
/-- a comprehension that changes nothing, item by item: g gives what each item makes (none: left out) -/
theorem comp_inv {st : Hh → Bool} {bind : LV → Env → M Env} {cond : Env → M Bool} {elt : Env → M LV} {R : List LV → Hh → Prop} {env : Env} (Iv : Nat → List LV → Hh → Prop) : ∀ (xs : List LV) (k : Nat) (acc : List LV) (h : Hh), Iv k acc h → (∀ i acc h, Iv i acc h → st h = true) →
    (∀ i x acc h, xs[i]? = some x → Iv (k + i) acc h → wp (bind x env) h fun e h1 => wp (cond e) h1 fun b h2 => (b = true → wp (elt e) h2 fun v h3 => acc.length < line ∧ Iv (k + i + 1) (acc ++ [v]) h3) ∧ (b = false → Iv (k + i + 1) acc h2)) → (∀ acc h, Iv (k + xs.length) acc h → R acc h) → wp (noX (compL st bind cond elt env xs acc)) h R
  | [], k, acc, h, h0, hst, step, done => by
    have e : noX (compL st bind cond elt env [] acc) h = .ok acc h := noX_ok (by
      unfold compL
      exact bind_ok (by unfold chkH; rw [if_pos (hst _ _ _ h0)]))
    unfold wp
    rw [e]
    exact done acc h h0
  | x :: xs, k, acc, h, h0, hst, step, done => by
    have s0 := step 0 x acc h rfl h0
    have again : ∀ acc2 h2, Iv (k + 1) acc2 h2 → wp (noX (compL st bind cond elt env xs acc2)) h2 R := fun acc2 h2 q3 => comp_inv Iv xs (k + 1) acc2 h2 q3 hst (fun i y acc h hy hI => by
      have := step (i + 1) y acc h (by simpa using hy) (by rw [show k + (i + 1) = k + 1 + i by omega]; exact hI)
      rw [show k + (i + 1) + 1 = k + 1 + i + 1 by omega] at this
      exact this) fun acc h hI => done acc h (by rw [List.length_cons, show k + (xs.length + 1) = k + 1 + xs.length by omega]; exact hI)
    have key : ∀ {α : Type} {m : M α} {k : α → M (List LV)} {h : Hh}, (wp m h fun a h1 => wp (noX (k a)) h1 R) → wp (noX (m >>= k)) h R := fun {α m k h} q => by
      unfold wp at q
      cases e : m h with
      | ok a h1 =>
        rw [e] at q
        have e2 : noX (m >>= k) h = noX (k a) h1 := by
          unfold noX
          rw [bind_ok e]
        unfold wp
        rw [e2]
        exact q
      | exc y h1 => rw [e] at q; exact q.elim
      | bad => rw [e] at q; exact q.elim
    unfold compL
    refine key (wp_chkH.mpr ⟨hst _ _ _ h0, key (wp_mono s0 fun e h1 q => key (wp_mono q fun b h2 q2 => ?_))⟩)
    cases b with
    | true =>
      refine key (wp_mono (q2.1 rfl) fun v h3 q3 => key ?_)
      rw [wp_chk]
      exact ⟨decide_eq_true q3.1, again _ _ q3.2⟩
    | false => exact again _ _ (q2.2 rfl)
theorem part_nil {K : Option Int → Prop} : (∃ l, part [] = some l ∧ K l) ↔ K none := ⟨fun ⟨l, e, q⟩ => by cases e; exact q, fun q => ⟨_, rfl, q⟩⟩
theorem part_int {K : Option Int → Prop} : (∃ l, part [.int i] = some l ∧ K l) ↔ K (some i) := ⟨fun ⟨l, e, q⟩ => by cases e; exact q, fun q => ⟨_, rfl, q⟩⟩
theorem v_eqInt : wp (cmpV .eq (.int i) (.int j)) h R ↔ R (decide (i = j)) h := by
  show R (i == j) h ↔ _
  have : (i == j) = decide (i = j) := rfl
  rw [this]
theorem v_addL {xs ys : List LV} : wp (binV .add (.lst xs) (.lst ys)) h Q ↔ xs.length + ys.length ≤ line ∧ Q (.lst (xs ++ ys)) h := wp_ifok
theorem v_neInt : wp (cmpV .ne (.int i) (.int j)) h R ↔ R (decide (i ≠ j)) h := by
  show R (!(i == j)) h ↔ _
  have : (!(i == j)) = decide (i ≠ j) := by by_cases c : i = j <;> simp [c]
  rw [this]
theorem v_inStr {c : Nat} {t : List Nat} : wp (cmpV .inn (.str [c]) (.str t)) h R ↔ R (decide (c ∈ t)) h := Iff.rfl
theorem v_addS {s t : List Nat} : wp (binV .add (.str s) (.str t)) h Q ↔ s.length + t.length ≤ line ∧ Q (.str (s ++ t)) h := wp_ifok
theorem v_all {o : LV} {xs : List LV} {bs : List Bool} (e : lstOf h o = some xs) (e2 : bls xs = some bs) (q : Q (.bl (bs.all id)) h) : wp (bcallV .all [o]) h Q := by
  unfold wp bcallV
  simp only [e, e2]
  exact q
theorem v_any {o : LV} {xs : List LV} {bs : List Bool} (e : lstOf h o = some xs) (e2 : bls xs = some bs) (q : Q (.bl (bs.any id)) h) : wp (bcallV .any [o]) h Q := by
  unfold wp bcallV
  simp only [e, e2]
  exact q
theorem v_chkJ {s : List Nat} {R : Unit → Hh → Prop} : wp (chkM .join (.str s)) h R ↔ R () h := Iff.rfl
theorem v_join {s : List Nat} {o : LV} {xs : List LV} {ts : List (List Nat)} (e : seqOf h o = some xs) (e2 : strsL xs = some ts) (hl : (ts.map (·.length)).sum + ts.length * s.length ≤ line) (q : Q (.str (joinL s ts)) h) : wp (bmethV .join (.str s) [o]) h Q := by
  unfold wp bmethV
  simp only [e, e2, if_pos hl]
  exact q
theorem bls_map {α : Type} (f : α → Bool) : ∀ l : List α, bls (l.map fun a => LV.bl (f a)) = some (l.map f)
  | [] => rfl
  | a :: l => by
    show (bls (l.map fun a => LV.bl (f a))).map (f a :: ·) = _
    rw [bls_map f l]
    rfl
theorem strs_map {α : Type} (f : α → List Nat) : ∀ l : List α, strsL (l.map fun a => LV.str (f a)) = some (l.map f)
  | [] => rfl
  | a :: l => by
    show (strsL (l.map fun a => LV.str (f a))).map (f a :: ·) = _
    rw [strs_map f l]
    rfl
theorem join_singles : ∀ l : List Nat, joinL [] (l.map fun c => [c]) = l
  | [] => rfl
  | [a] => rfl
  | a :: b :: l => by
    show [a] ++ ([] ++ joinL [] ((b :: l).map fun c => [c])) = _
    rw [join_singles (b :: l)]
    rfl
theorem xs_asg_cut {P : Prog} {cf : CF} {i : Nat} {e : E} {rest : Ss} {env : Env} {h : Hh} {R : Fl × Env → Hh → Prop} {v : LV} (h1 : wp (evE P cf e env) h fun x h' => x = v ∧ h' = h) (h2 : wp (exSs P cf rest (env.set i (some v))) h R) : wp (exSs P cf (.cons (.asg (.nm i) e) rest) env) h R := by
  refine xs_cons.mpr (x_asg.mpr (wp_mono h1 fun x h' ⟨ex, eh⟩ => ?_))
  subst ex
  subst eh
  exact wt_nm.mpr h2
theorem xs_cut {P : Prog} {cf : CF} {s : S} {rest : Ss} {env env2 : Env} {h : Hh} {R : Fl × Env → Hh → Prop} {S : Hh → Prop} (h1 : wp (exS P cf s env) h fun x h' => x = (.nx, env2) ∧ S h') (h2 : ∀ h', S h' → wp (exSs P cf rest env2) h' R) : wp (exSs P cf (.cons s rest) env) h R := by
  refine xs_cons.mpr (wp_mono h1 fun x h' ⟨ex, eh⟩ => ?_)
  subst ex
  exact h2 h' eh
theorem cut_len {α : Type} (xs : List α) (lo hi : Option Int) : (cut xs lo hi).length ≤ xs.length := by
  unfold cut
  rw [List.length_take, List.length_drop]
  omega
theorem sum_ones : ∀ l : List Nat, (l.map fun _ => 1).sum = l.length
  | [] => rfl
  | _ :: l => by
    rw [List.map_cons, List.sum_cons, sum_ones l, List.length_cons]
    omega
theorem v_getA {P : Prog} {n : Nat} {c f : String} {fs : List (String × LV)} {v : LV} (e : h[n]? = some (.ins c fs)) (e2 : isField P c f = true) (e3 : fs.lookup f = some v) (q : Q v h) : wp (getA P (.ref n) f) h Q := by
  unfold wp getA view
  dsimp only
  rw [e]
  dsimp only
  rw [if_pos e2, e3]
  exact q
theorem v_setA {P : Prog} {n : Nat} {c f : String} {fs fs2 : List (String × LV)} {v : LV} {R : Unit → Hh → Prop} (e : h[n]? = some (.ins c fs)) (e2 : isField P c f = true) (e3 : fs.length < 1000) (e4 : putF f v fs = fs2) (q : ∀ h', h' = h.set n (.ins c fs2) → h'[n]? = some (.ins c fs2) → R () h') : wp (setA P (.ref n) f v) h R := by
  unfold wp setA
  dsimp only
  rw [e]
  dsimp only
  rw [if_pos ⟨e2, e3⟩, e4]
  exact q _ rfl (List.getElem?_set_self (List.getElem?_eq_some_iff.mp e).1)
theorem v_methM {P : Prog} {n : Nat} {c m : String} {fs : List (String × LV)} {k : Cl} {g : String} {R : String → Hh → Prop} (e : h[n]? = some (.ins c fs)) (e2 : P.cls.lookup c = some k) (e3 : k.meths.lookup m = some g) (e4 : (fs.lookup m).isNone = true) (q : R g h) : wp (methM P (.ref n) m) h R := by
  unfold wp methM view
  dsimp only
  rw [e]
  dsimp only
  rw [e2]
  dsimp only
  rw [e3]
  dsimp only
  rw [if_pos e4]
  exact q
theorem w_bm0 {P : Prog} {cf : CF} {env : Env} {o : E} {m : BM0} : wp (evE P cf (.bm0 o m) env) h Q ↔ wp (evE P cf o env) h fun x h0 => wp (bm0V m x) h0 Q := by
  rw [evE]
  simp only [wp_bind]
theorem v_clear {n : Nat} {xs : List LV} (e : h[n]? = some (.lst xs)) (q : ∀ h', h' = h.set n (.lst []) → Q .non h') : wp (bm0V .clear (.ref n)) h Q := by
  unfold wp bm0V
  dsimp only
  rw [e]
  exact q _ rfl
theorem frz_ref {k n : Nat} {xs : List LV} (e : h[n]? = some (.lst xs)) (q : wp (mapM' (frzV k) xs) (h.set n .dead) fun ys h' => Q (.lst ys) h') : wp (frzV (k + 1) (.ref n)) h Q := by
  have u : frzV (k + 1) (.ref n) h = (match h[n]? with
        | some (.lst xs) => (do let ys ← mapM' (frzV k) xs; pure (.lst ys) : M LV) (h.set n .dead)
        | some (.ins c fs) => (do let ys ← mapM' (frzV k) (fs.map (·.2)); pure (.obj c (fs.map (·.1)) ys) : M LV) (h.set n .dead)
        | _ => .bad) := rfl
  rw [e] at u
  dsimp only at u
  unfold wp
  rw [u]
  exact wp_bind.mpr q
theorem frz_ints {k : Nat} {h : Hh} : ∀ (l : List LV), (∀ v ∈ l, ∃ i, v = .int i) → wp (mapM' (frzV (k + 1)) l) h fun ys h' => ys = l ∧ h' = h
  | [], _ => ⟨rfl, rfl⟩
  | v :: vs, hl => by
    obtain ⟨i, e⟩ := hl v (List.mem_cons_self ..)
    subst e
    show wp (frzV (k + 1) (.int i) >>= fun y => mapM' (frzV (k + 1)) vs >>= fun ys => pure (y :: ys)) h _
    rw [wp_bind]
    refine wp_pure.mpr ?_
    rw [wp_bind]
    refine wp_mono (frz_ints vs fun v hv => hl v (List.mem_cons_of_mem _ hv)) fun ys h' ⟨ey, eh⟩ => ?_
    subst ey
    subst eh
    exact ⟨rfl, rfl⟩
theorem v_lenC {k : Int} (h1 : 0 ≤ k) (h2 : k < 9223372036854775808) (q : Q (.int k) h) : wp (lenC (.int k)) h Q := by
  unfold lenC
  dsimp only
  rw [if_pos ⟨h1, h2⟩]
  exact q
theorem v_app {n : Nat} {xs : List LV} {v : LV} (e : h[n]? = some (.lst xs)) (e2 : xs.length < line) (q : ∀ h', h' = h.set n (.lst (xs ++ [v])) → h'[n]? = some (.lst (xs ++ [v])) → Q .non h') : wp (bmethV .append (.ref n) [v]) h Q := by
  unfold wp bmethV
  dsimp only
  rw [e]
  dsimp only
  rw [if_pos e2]
  exact q _ rfl (List.getElem?_set_self (List.getElem?_eq_some_iff.mp e).1)
theorem v_chkA {o : LV} {xs : List LV} {R : Unit → Hh → Prop} (e : lstOf h o = some xs) (q : R () h) : wp (chkM .append o) h R := by
  unfold wp chkM
  dsimp only
  rw [if_pos (by rw [e]; rfl)]
  exact q
/-- a new instance, its __init__, the instance -/
theorem w_make {P : Prog} {cf : CF} {env : Env} {c : String} {es kes : Es} {ks : List String} {k : Cl} (e : P.cls.lookup c = some k) : wp (evE P cf (.make c es ks kes) env) h Q ↔ wp (evs P cf es env) h fun xs h1 => wp (evs P cf kes env) h1 fun ys h2 => wp (cf k.init (.ref h2.length :: xs) (ks.zip ys)) (h2 ++ [.ins c []]) fun r h3 => r = .non ∧ Q (.ref h2.length) h3 := by
  rw [evE]
  simp only [wp_bind]
  apply iff_of_eq
  congr 1
  funext xs h1
  congr 1
  funext ys h2
  rw [e]
  dsimp only
  rw [wp_bind]
  show wp (do let r ← cf k.init (.ref h2.length :: xs) (ks.zip ys); match r with | .non => pure (.ref h2.length) | _ => M.bad) (h2 ++ [.ins c []]) Q = _
  rw [wp_bind]
  congr 1
  funext r h3
  cases r <;> simp [wp_pure', wp_bad]
theorem v_lstM {o : LV} {xs : List LV} {R : List LV → Hh → Prop} (e : lstOf h o = some xs) (q : R xs h) : wp (lstM o) h R := by
  unfold wp lstM
  rw [e]
  exact q
theorem v_listM {o : LV} {xs : List LV} (e : seqOf h o = some xs) (q : wp (mkL true xs) h Q) : wp (bcallV .listM [o]) h Q := by
  unfold wp bcallV
  dsimp only
  rw [e]
  exact q
theorem v_rev {mu : Bool} {o : LV} {xs : List LV} (e : lstOf h o = some xs) (q : wp (mkL mu xs.reverse) h Q) : wp (revV mu o) h Q := by
  unfold revV
  rw [wp_bind]
  exact v_lstM e q
theorem w_ins {P : Prog} {cf : CF} {env : Env} {o i v : E} : wp (evE P cf (.ins o i v) env) h Q ↔ wp (evE P cf o env) h fun x h0 => wp (chkM .append x) h0 fun _ h0 => wp (evE P cf i env) h0 fun y h1 => wp (evE P cf v env) h1 fun z h2 => wp (insV x y z) h2 Q := by
  rw [evE]
  simp only [wp_bind]
theorem v_ins {n : Nat} {xs : List LV} {k : Int} {v : LV} (e : h[n]? = some (.lst xs)) (e1 : xs.length < line) (e2 : 0 ≤ k) (e3 : k ≤ line) (q : ∀ h', h' = h.set n (.lst (xs.take k.toNat ++ [v] ++ xs.drop k.toNat)) → h'[n]? = some (.lst (xs.take k.toNat ++ [v] ++ xs.drop k.toNat)) → Q .non h') : wp (insV (.ref n) (.int k) v) h Q := by
  unfold wp insV
  dsimp only
  rw [e]
  dsimp only
  rw [if_pos ⟨e1, e2, e3⟩]
  exact q _ rfl (List.getElem?_set_self (List.getElem?_eq_some_iff.mp e).1)
theorem w_lrng {P : Prog} {cf : CF} {env : Env} {mu : Bool} {a : E} : wp (evE P cf (.lrng mu a) env) h Q ↔ wp (evE P cf a env) h fun x h1 => wpI x fun j => (decide (0 ≤ j) && decide (j ≤ (line : Int))) = true ∧ wp (mkL mu (rangeL 0 j)) h1 Q := by
  rw [evE]
  simp only [wp_bind]
  apply iff_of_eq
  congr 1
  funext x h1
  cases x <;> first | rfl | skip
  simp only [wp_bind, wp_chk, wpI_int]
theorem v_mulL {n : Nat} {xs : List LV} {j : Int} (e : h[n]? = some (.lst xs)) (e1 : 0 ≤ j) (e2 : j ≤ line) (e3 : xs.length * j.toNat ≤ line) (q : Q (.lst (List.replicate j.toNat xs).flatten) h) : wp (binV .mul (.ref n) (.int j)) h Q := by
  unfold wp binV
  dsimp only
  rw [e]
  dsimp only
  rw [if_pos ⟨e1, e2, e3⟩]
  exact q
theorem v_sum {o : LV} {xs : List LV} {ns : List Int} (e : lstOf h o = some xs) (e2 : intsL xs = some ns) (q : Q (.int ns.sum) h) : wp (bcallV .sum [o]) h Q := by
  unfold wp bcallV
  simp only [e, e2]
  exact q
theorem ints_map {α : Type} (f : α → Int) : ∀ l : List α, intsL (l.map fun a => LV.int (f a)) = some (l.map f)
  | [] => rfl
  | a :: l => by
    show (intsL (l.map fun a => LV.int (f a))).map (f a :: ·) = _
    rw [ints_map f l]
    rfl
theorem v_min : wp (bcallV .min [.int i, .int j]) h Q ↔ Q (.int (if j < i then j else i)) h := Iff.rfl
theorem v_max : wp (bcallV .max [.int i, .int j]) h Q ↔ Q (.int (if j > i then j else i)) h := Iff.rfl
end
end Mn

set_option Elab.async false
set_option linter.all false
set_option maxRecDepth 100000
set_option maxHeartbeats 400000
/-! Mini, part 19: the draws of a law (the same defs in all laws). -/
namespace Mn
namespace Lc
def b_law_source : Ss :=
    (.cons (.asg (.nm 1) (.cst (.int 4917)))
    (.cons (.forS (.nm 2) (.seq (.slice (.loc 0) .nil (.cons (.cst (.int 63)) .nil))) (.cons (.asg (.nm 1) (.bin .mod (.bcall .int (.cons (.bin .add (.bin .add (.bin .mul (.loc 1) (.cst (.int 46351))) (.bin .mod (.bcall .int (.cons (.loc 2) .nil)) (.cst (.int 2147483399)))) (.cst (.int 29))) .nil)) (.cst (.int 2147483549))))
    .nil))
    (.cons (.ret (.list true (.cons (.bcall .list (.cons (.slice (.loc 0) .nil (.cons (.cst (.int 63)) .nil)) .nil)) (.cons (.cst (.int 0)) (.cons (.cst (.int 0)) (.cons (.loc 1) (.cons (.cst (.int 0)) .nil)))))))
    .nil)))
def f_law_source : Fn := { names := ["_law_script", "_law_seed", "_law_cell"], npos := 1, dfl := [], kwo := [], star := false, body := b_law_source }
def b_law_draw : Ss :=
    (.cons (.ifS (.and (.cmp .lt (.sub (.loc 0) (.cst (.int 2))) (.loc 1)) (.cmp .lt (.sub (.loc 0) (.cst (.int 1))) (.bcall .len (.cons (.sub (.loc 0) (.cst (.int 0))) .nil)))) (.cons (.asg (.nm 3) (.sub (.sub (.loc 0) (.cst (.int 0))) (.sub (.loc 0) (.cst (.int 1)))))
    (.cons (.asg (.sub (.loc 0) (.cst (.int 1))) (.bin .add (.sub (.loc 0) (.cst (.int 1))) (.cst (.int 1))))
    (.cons (.asg (.sub (.loc 0) (.cst (.int 3))) (.bin .mod (.bcall .int (.cons (.bin .add (.bin .add (.bin .mul (.sub (.loc 0) (.cst (.int 3))) (.cst (.int 40853))) (.bin .mul (.bin .mod (.bcall .int (.cons (.loc 3) .nil)) (.cst (.int 2147483477))) (.cst (.int 59)))) (.sub (.loc 0) (.cst (.int 1)))) .nil)) (.cst (.int 2147483549))))
    (.cons (.asg (.sub (.loc 0) (.cst (.int 2))) (.ite (.cmp .ge (.loc 3) (.bin .pow (.cst (.int 10)) (.cst (.int 18)))) (.loc 3) (.cst (.int 0))))
    .nil)))) .nil)
    (.cons (.ifS (.cmp .ge (.sub (.loc 0) (.cst (.int 2))) (.loc 1)) (.cons (.asg (.nm 4) (.bin .mod (.bcall .int (.cons (.sub (.loc 0) (.cst (.int 2))) .nil)) (.loc 1)))
    (.cons (.asg (.sub (.loc 0) (.cst (.int 2))) (.bin .fdiv (.sub (.loc 0) (.cst (.int 2))) (.loc 1)))
    (.cons (.ret (.loc 4))
    .nil))) .nil)
    (.cons (.asg (.sub (.loc 0) (.cst (.int 4))) (.bin .add (.sub (.loc 0) (.cst (.int 4))) (.cst (.int 1))))
    (.cons (.asg (.nm 2) (.bin .mod (.bcall .int (.cons (.bin .add (.sub (.loc 0) (.cst (.int 3))) (.bin .mul (.sub (.loc 0) (.cst (.int 4))) (.cst (.int 7919)))) .nil)) (.cst (.int 2147483549))))
    (.cons (.asg (.sub (.loc 0) (.cst (.int 3))) (.bin .mod (.bcall .int (.cons (.bin .add (.bin .add (.bin .mul (.loc 2) (.loc 2)) (.bin .mul (.loc 2) (.cst (.int 30011)))) (.cst (.int 1299827))) .nil)) (.cst (.int 2147483549))))
    (.cons (.ret (.bin .mod (.bcall .int (.cons (.bin .add (.bin .fdiv (.sub (.loc 0) (.cst (.int 3))) (.cst (.int 61))) (.bin .mul (.bin .mod (.bcall .int (.cons (.sub (.loc 0) (.cst (.int 3))) .nil)) (.cst (.int 8087))) (.cst (.int 193)))) .nil)) (.loc 1)))
    .nil))))))
def f_law_draw : Fn := { names := ["_law_rng", "_law_many", "_law_root", "_law_cell", "_law_digit"], npos := 2, dfl := [], kwo := [], star := false, body := b_law_draw }
def b_law_pick : Ss :=
    (.cons (.ret (.sub (.loc 1) (.call "_law_draw" (.cons (.loc 0) (.cons (.bcall .len (.cons (.loc 1) .nil)) .nil)) [] .nil)))
    .nil)
def f_law_pick : Fn := { names := ["_law_rng", "_law_things"], npos := 2, dfl := [], kwo := [], star := false, body := b_law_pick }
def b_law_same : Ss :=
    (.cons (.ret (.reprEq (.loc 0) (.loc 1)))
    .nil)
def f_law_same : Fn := { names := ["_law_found", "_law_due"], npos := 2, dfl := [], kwo := [], star := false, body := b_law_same }
end Lc
/-- the state of the draws, in the cell r: k bounds how many were drawn -/
def Rng (r : Nat) (k : Int) (h : Hh) : Prop := ∃ (cells : List Int) (i a s c : Int), h[r]? = some (.lst [.lst (cells.map .int), .int i, .int a, .int s, .int c]) ∧ 0 ≤ i ∧ 0 ≤ s ∧ s < 2147483549 ∧ 0 ≤ c ∧ c ≤ k
theorem small_of {i : Int} (h1 : -1000000000000000000000000000000000000 < i) (h2 : i < 1000000000000000000000000000000000000) : smallI i = true := by
  unfold smallI BIG
  rw [decide_eq_true (by omega), decide_eq_true (by omega)]
  rfl
theorem callF_w {P : Prog} {n : Nat} {f : String} {fn : Fn} {args vs : List LV} {kws : List (String × LV)} {h : Hh} {Q : LV → Hh → Prop} (hf : P.fns.lookup f = some fn) (hb : bindF fn args kws = some vs)
    (q : wp (exSs P (callF P n) fn.body (vs.map some ++ List.replicate (fn.names.length - vs.length) none)) h fun r h1 => wp (endB r.1) h1 Q) : wp (callF P (n + 1) f args kws) h Q := by
  rw [callF_some hf hb, wp_bind]
  exact q
theorem end_rt {v : LV} {h : Hh} {Q : LV → Hh → Prop} : wp (endB (.rt v)) h Q ↔ Q v h := Iff.rfl
theorem end_nx {h : Hh} {Q : LV → Hh → Prop} : wp (endB .nx) h Q ↔ Q .non h := Iff.rfl
local macro_rules | `(tactic| infer_instance) => `(tactic| first
  | (with_reducible refine w_loc.mpr ?_); refine wpO_some.mpr ?_
  | (with_reducible (first | refine w_cst.mpr ?_ | refine ws_cons.mpr ?_ | refine ws_nil.mpr ?_ | refine w_sub.mpr ?_ | refine w_bin.mpr ?_ | refine w_cmp.mpr ?_ | refine w_bcall.mpr ?_ | refine w_call.mpr ?_ | refine w_and.mpr ?_ | refine w_or.mpr ?_ | refine w_not.mpr ?_ | refine w_ite.mpr ?_ | refine w_chain.mpr ?_ | refine w_tup.mpr ?_ | refine w_list.mpr ?_ | refine w_comp.mpr ?_ | refine w_frz.mpr ?_ | refine w_slice.mpr ?_ | refine w_attr.mpr ?_ | refine w_meth.mpr ?_ | refine w_bmeth.mpr ?_ | refine w_bm0.mpr ?_ | refine w_dict1.mpr ?_ | refine w_rev.mpr ?_ | refine w_ins.mpr ?_ | refine w_lrng.mpr ?_ | refine w_isI.mpr ?_ | refine v_isN.mpr ?_ | refine v_isnN.mpr ?_ | refine v_isB.mpr ?_ | refine v_isnB.mpr ?_ | refine w_neg.mpr ?_ | refine w_repr.mpr ?_ | refine xs_cons.mpr ?_ | refine xs_nil.mpr ?_ | refine x_asg.mpr ?_ | refine x_if.mpr ?_ | refine x_ret.mpr ?_ | refine x_expr.mpr ?_ | refine x_for.mpr ?_ | refine x_while.mpr ?_ | refine x_pass.mpr ?_ | refine x_retN.mpr ?_ | refine x_brk.mpr ?_ | refine x_cont.mpr ?_ | refine wpF_nx.mpr ?_ | refine wpF_rt.mpr ?_ | refine wpF_bk.mpr ?_ | refine wpF_ct.mpr ?_ | refine end_rt.mpr ?_ | refine end_nx.mpr ?_ | refine wpB_bl.mpr ?_ | refine wpT_tup.mpr ?_ | refine wt_nm.mpr ?_ | refine wt_tup.mpr ?_ | refine wt_sub.mpr ?_ | refine wt_attr.mpr ?_ | refine wts_cons.mpr ?_ | refine wts_nil.mpr ?_ | refine wi_seq.mpr ?_ | refine wi_enum.mpr ?_ | refine wi_zip.mpr ?_ | refine v_lstM ls_lst ?_ | refine v_min.mpr ?_ | refine v_max.mpr ?_ | refine wi_range1.mpr ?_ | refine wi_range2.mpr ?_ | refine wpI_int.mpr ?_ | refine wc_nil.mpr ?_ | refine wc_one.mpr ?_ | refine v_add.mpr ?_ | refine v_sub.mpr ?_ | refine v_lt.mpr ?_ | refine v_le.mpr ?_ | refine v_gt.mpr ?_ | refine v_ge.mpr ?_ | refine v_int.mpr ?_ | refine v_neg.mpr ?_ | refine v_augadd.mpr ?_ | refine v_augsub.mpr ?_ | refine v_eqInt.mpr ?_ | refine v_neInt.mpr ?_ | refine v_inStr.mpr ?_ | refine v_chkJ.mpr ?_ | refine part_nil.mpr ?_ | refine part_int.mpr ?_ | refine wpL_nx.mpr ?_ | refine wpL_ct.mpr ?_ | refine wpL_bk.mpr ?_ | refine wpL_rt.mpr ?_ | refine v_slScr.mpr ?_ | refine v_slTup.mpr ?_ | refine v_slLst.mpr ?_ | refine v_walkS.mpr ?_ | refine v_list sq_lst ?_ | refine v_list sq_tup ?_ | refine v_tuple sq_lst ?_ | refine v_tuple sq_tup ?_ | refine v_walk sq_lst ?_ | refine v_walk sq_tup ?_))
  | (with_reducible refine w_glo.mpr ?_); refine wpO_some.mpr ?_
  | (with_reducible refine x_aug.mpr ?_); refine wpO_some.mpr ?_
  | (with_reducible apply v_sub_sq (sq_ref (by assumption))); · rfl
  | (with_reducible apply v_sub_sq sq_tup); · rfl
  | (with_reducible apply v_set1 (by assumption)); · rfl
    · rfl
    intro _ _ _
  | (with_reducible refine v_mod.mpr ⟨?_, ?_⟩); · (first | decide | omega)
  | (with_reducible refine v_fdiv.mpr ⟨⟨?_, ?_⟩, ?_⟩); · (first | decide | omega)
    · (first | decide | assumption | (unfold BIG; omega))
  | (with_reducible refine v_mul.mpr ⟨⟨small_of ?_ ?_, small_of ?_ ?_⟩, ?_⟩); · (first | decide | omega)
    · (first | decide | omega)
    · (first | decide | omega)
    · (first | decide | omega)
  | (with_reducible refine v_pow.mpr ⟨⟨?_, ?_, ?_⟩, ?_⟩); · decide
    · decide
    · decide
  | (with_reducible refine v_len (sq_lst) ?_)
  | (with_reducible refine v_len (sq_ref (by assumption)) ?_)
  | (with_reducible refine v_mkF.mpr ⟨?_, ?_⟩); · (simp [line] <;> done)
  | (with_reducible refine v_mkM.mpr ⟨?_, ?_⟩); · (simp [line] <;> done)
  | (with_reducible refine v_mkT.mpr ⟨?_, ?_⟩); · (simp [line] <;> done)
  | (with_reducible apply v_getA (by assumption)); · rfl
    · rfl
  | (with_reducible apply v_methM (by assumption)); · rfl
    · rfl
    · rfl
  | (with_reducible apply v_setA (by assumption)); · rfl
    · (show _ < 1000; first | decide | (simp [putF]; done))
    · rfl
    intro _ _ _
  | (with_reducible refine w_lenO.mpr ?_))
theorem set_same {α : Type} {l : List α} {n : Nat} {a : α} (e : l[n]? = some a) : l.set n a = l := by
  obtain ⟨h, e⟩ := List.getElem?_eq_some_iff.mp e
  rw [← e]
  exact List.set_getElem_self h
theorem set_two {α : Type} {h h1 h2 : List α} {r : Nat} {x y : α} (e2 : h2 = h1.set r y) (e1 : h1 = h.set r x) : h2 = h.set r y := by rw [e2, e1, List.set_set]
theorem at_ints {cells : List Int} {i : Int} (h1 : 0 ≤ i) (h2 : i < cells.length) : ∃ c, L2.atI (cells.map LV.int) i = some (.int c) := by
  have e : i.toNat < cells.length := by omega
  refine ⟨cells[i.toNat], ?_⟩
  have z := L2.atI_nat (xs := cells.map LV.int) (j := i.toNat) (v := .int cells[i.toNat]) (by rw [List.getElem?_map, List.getElem?_eq_getElem e]; rfl)
  rw [show ((i.toNat : Nat) : Int) = i by omega] at z
  exact z
theorem at_mem {α : Type} {xs : List α} {i : Int} (h1 : 0 ≤ i) (h2 : i < xs.length) : ∃ c, L2.atI xs i = some c ∧ c ∈ xs := by
  have e : i.toNat < xs.length := by omega
  refine ⟨xs[i.toNat], ?_, List.getElem_mem e⟩
  have z := L2.atI_nat (xs := xs) (j := i.toNat) (v := xs[i.toNat]) (List.getElem?_eq_getElem e)
  rw [show ((i.toNat : Nat) : Int) = i by omega] at z
  exact z
theorem draw_spec {P : Prog} {n r : Nat} {h : Hh} {many k : Int} (hP : P.fns.lookup "_law_draw" = some Lc.f_law_draw) (hm : 0 < many) (hB : many < BIG) (R : Rng r k h) (hk : k < 1000000000000) :
    wp (callF P (n + 1) "_law_draw" [.ref r, .int many] []) h fun v h' => ∃ d, v = .int d ∧ 0 ≤ d ∧ d < many ∧ ∃ o, h' = h.set r o ∧ Rng r (k + 1) h' := by
  obtain ⟨cells, i, a, s, c, e, hi, hs, hs2, hc, hck⟩ := R
  refine callF_w hP (vs := [.ref r, .int many]) rfl ?_
  show wp (exSs P (callF P n) Lc.b_law_draw [some (.ref r), some (.int many), none, none, none]) h _
  unfold Lc.b_law_draw
  -- the first if: a cell of the script is taken, or not
  refine xs_cons.mpr (wp_mono (Q := fun x h1 => ∃ e3 o, x = (.nx, [some (.ref r), some (.int many), none, e3, none]) ∧ h1 = h.set r o ∧ ∃ (i a s c : Int), h1[r]? = some (.lst [.lst (cells.map .int), .int i, .int a, .int s, .int c]) ∧ 0 ≤ i ∧ 0 ≤ s ∧ s < 2147483549 ∧ 0 ≤ c ∧ c ≤ k) ?_ ?_)
  · have skip : ∃ e3 o, ((Fl.nx, [some (.ref r), some (.int many), none, none, none]) : Fl × Env) = (.nx, [some (.ref r), some (.int many), none, e3, none]) ∧ h = h.set r o ∧ ∃ (i a s c : Int), h[r]? = some (.lst [.lst (cells.map .int), .int i, .int a, .int s, .int c]) ∧ 0 ≤ i ∧ 0 ≤ s ∧ s < 2147483549 ∧ 0 ≤ c ∧ c ≤ k :=
      ⟨none, _, rfl, (set_same e).symm, i, a, s, c, e, hi, hs, hs2, hc, hck⟩
    repeat infer_instance
    refine dec2 (fun c1 => ?_) (fun c1 => ?_)
    · repeat infer_instance
      refine dec2 (fun c2 => ?_) (fun c2 => ?_)
      · repeat infer_instance
        obtain ⟨cell, ec⟩ := at_ints (cells := cells) hi (by simpa using c2)
        refine v_sub_sq sq_lst ec ?_
        repeat infer_instance
        refine dec2 (fun c3 => ?_) (fun c3 => ?_)
        · repeat infer_instance
          exact ⟨some (.int cell), _, rfl, set_two (by assumption) (set_two (by assumption) (by assumption)), i + 1, cell, _, c, by assumption, by omega, by omega, by omega, hc, hck⟩
        · repeat infer_instance
          exact ⟨some (.int cell), _, rfl, set_two (by assumption) (set_two (by assumption) (by assumption)), i + 1, 0, _, c, by assumption, by omega, by omega, by omega, hc, hck⟩
      · repeat infer_instance
        exact skip
    · repeat infer_instance
      refine dec_f rfl ?_
      repeat infer_instance
      exact skip
  · rintro x h1 ⟨e3, o, ex, eh, i, a, s, c, e1, hi, hs, hs2, hc, hck⟩
    subst ex
    repeat infer_instance
    refine dec2 (fun c1 => ?_) (fun c1 => ?_)
    · repeat infer_instance
      refine ⟨_, rfl, Int.emod_nonneg _ (by omega), Int.emod_lt_of_pos _ hm, _, set_two (by assumption) (by assumption), ?_⟩
      exact ⟨cells, i, a / many, s, c, by assumption, hi, hs, hs2, hc, by omega⟩
    · repeat infer_instance
      refine ⟨_, rfl, Int.emod_nonneg _ (by omega), Int.emod_lt_of_pos _ hm, _, set_two (by assumption) (set_two (by assumption) (by assumption)), ?_⟩
      exact ⟨cells, i, a, _, c + 1, by assumption, hi, Int.emod_nonneg _ (by decide), Int.emod_lt_of_pos _ (by decide), by omega, by omega⟩
theorem source_spec {P : Prog} {n : Nat} {h : Hh} {ns : List Int} (hP : P.fns.lookup "_law_source" = some Lc.f_law_source) :
    wp (callF P (n + 1) "_law_source" [.scr ns] []) h fun v h' => v = .ref h.length ∧ ∃ o, h' = h ++ [o] ∧ Rng h.length 0 h' := by
  refine callF_w hP (vs := [.scr ns]) rfl ?_
  show wp (exSs P (callF P n) Lc.b_law_source [some (.scr ns), none, none]) h _
  unfold Lc.b_law_source
  repeat infer_instance
  refine for_inv (fun i env h' => h' = h ∧ ∃ (s : Int) (e3 : Option LV), env = [some (.scr ns), some (.int s), e3] ∧ 0 ≤ s ∧ s < 2147483549) _ 0 _ _ ⟨rfl, 4917, none, rfl, by decide, by decide⟩ (fun _ _ _ _ => rfl) ?_ ?_
  · rintro i x env h' hx ⟨eh, s, e3, ee, h1, h2⟩
    subst eh
    subst ee
    rw [List.getElem?_map] at hx
    obtain ⟨c, _, ec⟩ := Option.map_eq_some_iff.mp hx
    subst ec
    repeat infer_instance
    exact ⟨rfl, _, some (.int c), rfl, Int.emod_nonneg _ (by decide), Int.emod_lt_of_pos _ (by decide)⟩
  · rintro env h' ⟨eh, s, e3, ee, h1, h2⟩
    subst eh
    subst ee
    repeat infer_instance
    refine ⟨rfl, _, rfl, cut ns none (some 63), 0, 0, s, 0, ?_, by decide, h1, h2, by decide, by decide⟩
    exact List.getElem?_concat_length
/-- a thing is picked: by its place -/
theorem pick_spec {P : Prog} {n r : Nat} {h : Hh} {k : Int} {o : LV} {xs : List LV} (hP : P.fns.lookup "_law_draw" = some Lc.f_law_draw) (hP2 : P.fns.lookup "_law_pick" = some Lc.f_law_pick) (ho : ∀ o', seqOf (h.set r o') o = some xs) (h0 : seqOf h o = some xs) (hx : xs ≠ []) (hB : xs.length ≤ 1000000000) (R : Rng r k h) (hk : k < 1000000000000) :
    wp (callF P (n + 2) "_law_pick" [.ref r, o] []) h fun v h' => v ∈ xs ∧ ∃ o, h' = h.set r o ∧ Rng r (k + 1) h' := by
  refine callF_w hP2 (vs := [.ref r, o]) rfl ?_
  show wp (exSs P (callF P (n + 1)) Lc.b_law_pick [some (.ref r), some o]) h _
  unfold Lc.b_law_pick
  have hpos : 0 < xs.length := List.length_pos_iff.mpr hx
  repeat infer_instance
  refine v_len h0 ?_
  repeat infer_instance
  refine wp_mono (draw_spec hP (many := xs.length) (by omega) (by unfold BIG; omega) R hk) fun v h' ⟨d, ev, d1, d2, o', eh, R'⟩ => ?_
  subst ev
  subst eh
  obtain ⟨x, hx1, hx2⟩ := at_mem (xs := xs) d1 d2
  refine v_sub_sq (ho o') hx1 ?_
  repeat infer_instance
  exact ⟨hx2, o', rfl, R'⟩
theorem pick_str {P : Prog} {n r : Nat} {h : Hh} {k : Int} {s : List Nat} (hP : P.fns.lookup "_law_draw" = some Lc.f_law_draw) (hP2 : P.fns.lookup "_law_pick" = some Lc.f_law_pick) (hx : s ≠ []) (hB : s.length ≤ line) (R : Rng r k h) (hk : k < 1000000000000) :
    wp (callF P (n + 2) "_law_pick" [.ref r, .str s] []) h fun v h' => (∃ c ∈ s, v = .str [c]) ∧ ∃ o, h' = h.set r o ∧ Rng r (k + 1) h' := by
  refine callF_w hP2 (vs := [.ref r, .str s]) rfl ?_
  show wp (exSs P (callF P (n + 1)) Lc.b_law_pick [some (.ref r), some (.str s)]) h _
  unfold Lc.b_law_pick
  have hpos : 0 < s.length := List.length_pos_iff.mpr hx
  have hB' : s.length ≤ 16777216 := hB
  repeat infer_instance
  refine v_lenS hB ?_
  repeat infer_instance
  refine wp_mono (draw_spec hP (many := s.length) (by omega) (by unfold BIG; omega) R hk) fun v h' ⟨d, ev, d1, d2, o', eh, R'⟩ => ?_
  subst ev
  subst eh
  obtain ⟨x, hx1, hx2⟩ := at_mem (xs := s) d1 d2
  refine v_subS hB hx1 ?_
  repeat infer_instance
  exact ⟨⟨x, hx2, rfl⟩, o', rfl, R'⟩
/-- repr(found) == repr(due), of data that are the same -/
theorem same_spec {P : Prog} {n : Nat} {h : Hh} {a b x : LV} (hP : P.fns.lookup "_law_same" = some Lc.f_law_same) (ha : dat DEEP h a = some x) (hb : dat DEEP h b = some x) (hs : (pd x).showable = true) (hl : (pd x).shown.length ≤ line) :
    wp (callF P (n + 1) "_law_same" [a, b] []) h fun v h' => v = .bl true ∧ h' = h := by
  refine callF_w hP (vs := [a, b]) rfl ?_
  show wp (exSs P (callF P n) Lc.b_law_same [some a, some b]) h _
  unfold Lc.b_law_same
  repeat infer_instance
  have z : ∀ {v : LV} {R : PySem.Str → Hh → Prop}, dat DEEP h v = some x → R (pd x).shown h → wp (reprD v) h R := fun {v R} e q => by
    unfold wp reprD
    rw [e]
    dsimp only
    rw [if_pos ⟨hs, hl⟩]
    exact q
  refine z ha ?_
  repeat infer_instance
  refine z hb ?_
  repeat infer_instance
  exact ⟨by rw [decide_eq_true rfl], rfl⟩
theorem Rng.mono {r : Nat} {k k' : Int} {h : Hh} (R : Rng r k h) (l : k ≤ k') : Rng r k' h := by
  obtain ⟨cells, i, a, s, c, e, h1, h2, h3, h4, h5⟩ := R
  exact ⟨cells, i, a, s, c, e, h1, h2, h3, h4, by omega⟩
end Mn

set_option Elab.async false
set_option linter.all false
set_option maxRecDepth 100000
set_option maxHeartbeats 4000000
/-! Least sums over a matrix: plain Lean. -/
namespace Mx
abbrev Mat := Nat → Nat → Int
structure Closed (n : Nat) (d : Mat) : Prop where
  dg : ∀ i, i < n → d i i = 0
  tr : ∀ i j k, i < n → j < n → k < n → d i j ≤ d i k + d k j
/-- the greatest closed matrix below M -/
structure IsCl (n : Nat) (M C : Mat) : Prop where
  cl : Closed n C
  le : ∀ i j, i < n → j < n → C i j ≤ M i j
  gr : ∀ E, Closed n E → (∀ i j, i < n → j < n → E i j ≤ M i j) → ∀ i j, i < n → j < n → E i j ≤ C i j
theorem IsCl.uniq {n : Nat} {M C D : Mat} (c : IsCl n M C) (d : IsCl n M D) : ∀ i j, i < n → j < n → C i j = D i j := fun i j hi hj =>
  Int.le_antisymm (d.gr C c.cl c.le i j hi hj) (c.gr D d.cl d.le i j hi hj)
def put (d : Mat) (a b : Nat) (x : Int) : Mat := fun i j => if i = a ∧ j = b then min (d a b) x else d i j
def inc (d : Mat) (a b : Nat) (x : Int) : Mat := fun i j => min (d i j) (d i a + x + d b j)
/-- one more bound -/
theorem inc_cl {n : Nat} {d : Mat} (h : Closed n d) {a b : Nat} {x : Int} (ha : a < n) (hb : b < n) (hx : 0 ≤ d b a + x) : IsCl n (put d a b x) (inc d a b x) where
  cl := {
    dg := fun i hi => by
      have h1 := h.dg i hi
      have h2 := h.tr b a i hb ha hi
      show min (d i i) (d i a + x + d b i) = 0
      omega
    tr := fun i j k hi hj hk => by
      have h1 := h.tr i j k hi hj hk
      have h2 := h.tr i a k hi ha hk
      have h3 := h.tr b j k hb hj hk
      have h4 := h.tr b a k hb ha hk
      show min (d i j) (d i a + x + d b j) ≤ min (d i k) (d i a + x + d b k) + min (d k j) (d k a + x + d b j)
      omega }
  le := fun i j hi hj => by
    have h1 := h.dg a ha
    have h2 := h.dg b hb
    unfold inc put
    by_cases c : i = a ∧ j = b
    · rw [if_pos c, c.1, c.2]
      omega
    · rw [if_neg c]
      omega
  gr := fun E e le i j hi hj => by
    have l1 := le i j hi hj
    have l2 := le i a hi ha
    have l3 := le b j hb hj
    have l4 := le a b ha hb
    have t1 := e.tr i j a hi hj ha
    have t2 := e.tr a j b ha hj hb
    have g1 := e.dg a ha
    have g2 := e.dg b hb
    have p1 : put d a b x i j ≤ d i j := by
      unfold put
      by_cases c : i = a ∧ j = b
      · rw [if_pos c, c.1, c.2]; omega
      · rw [if_neg c]; omega
    have p2 : put d a b x i a ≤ d i a := by
      unfold put
      by_cases c : i = a ∧ a = b
      · rw [if_pos c, c.1, ← c.2]; omega
      · rw [if_neg c]; omega
    have p3 : put d a b x b j ≤ d b j := by
      unfold put
      by_cases c : b = a ∧ j = b
      · rw [if_pos c, c.2, ← c.1]; omega
      · rw [if_neg c]; omega
    have p4 : put d a b x a b ≤ x := by
      unfold put
      rw [if_pos ⟨rfl, rfl⟩]
      omega
    show E i j ≤ min (d i j) (d i a + x + d b j)
    omega
/-- it changes nothing where the bound tells nothing new -/
theorem inc_same {n : Nat} {d : Mat} (h : Closed n d) {a b : Nat} {x : Int} (ha : a < n) (hb : b < n) (hx : d a b ≤ x) (i j : Nat) (hi : i < n) (hj : j < n) : inc d a b x i j = d i j := by
  have h1 := h.tr i j a hi hj ha
  have h2 := h.tr a j b ha hj hb
  unfold inc
  omega
theorem inc_row {n : Nat} {d : Mat} (h : Closed n d) {a b : Nat} {x : Int} (ha : a < n) (hb : b < n) (i : Nat) (hi : i < n) (hx : d i b ≤ d i a + x) (j : Nat) (hj : j < n) : inc d a b x i j = d i j := by
  have h1 := h.tr i j b hi hj hb
  unfold inc
  omega
/-! ### one via after another -/
def via (d : Mat) (k : Nat) : Mat := fun i j => min (d i j) (d i k + d k j)
structure Fw (n : Nat) (M : Mat) (k : Nat) (d : Mat) : Prop where
  le : ∀ i j, i < n → j < n → d i j ≤ M i j
  gr : ∀ E, Closed n E → (∀ i j, i < n → j < n → E i j ≤ M i j) → ∀ i j, i < n → j < n → E i j ≤ d i j
  dg : ∀ i, i < n → d i i = 0
  tr : ∀ i j v, i < n → j < n → v < n → v < k → d i j ≤ d i v + d v j
theorem Fw.start {n : Nat} {M : Mat} (hd : ∀ i, i < n → M i i = 0) : Fw n M 0 M := ⟨fun _ _ _ _ => Int.le_refl _, fun E e le => le, hd, fun _ _ _ _ _ _ h => by omega⟩
theorem Fw.step {n : Nat} {M d E : Mat} {k : Nat} (f : Fw n M k d) (hk : k < n) (e : Closed n E) (le : ∀ i j, i < n → j < n → E i j ≤ M i j) : Fw n M (k + 1) (via d k) where
  le := fun i j hi hj => by
    have := f.le i j hi hj
    unfold via
    omega
  gr := fun E e le i j hi hj => by
    have h1 := f.gr E e le i j hi hj
    have h2 := f.gr E e le i k hi hk
    have h3 := f.gr E e le k j hk hj
    have h4 := e.tr i j k hi hj hk
    unfold via
    omega
  dg := fun i hi => by
    have h1 := f.dg i hi
    have h2 := f.gr E e le i k hi hk
    have h3 := f.gr E e le k i hk hi
    have h4 := e.tr i i k hi hi hk
    have h5 := e.dg i hi
    unfold via
    omega
  tr := fun i j v hi hj hv hvk => by
    have g := f.dg k hk
    unfold via
    by_cases c : v = k
    · subst c
      omega
    · have hv' : v < k := by omega
      have h1 := f.tr i j v hi hj hv hv'
      have h2 := f.tr k j v hk hj hv hv'
      have h3 := f.tr i k v hi hk hv hv'
      have h4 := f.tr k k v hk hk hv hv'
      omega
theorem Fw.done {n : Nat} {M d : Mat} (f : Fw n M n d) : IsCl n M d := ⟨⟨f.dg, fun i j k hi hj hk => f.tr i j k hi hj hk hk⟩, f.le, f.gr⟩
end Mx

set_option Elab.async false
set_option linter.all false
set_option maxRecDepth 100000
set_option maxHeartbeats 4000000
/-! Mini, part 20: data that repr can show, by size. -/
namespace Mn
open PySem (PyData Str)
mutual
/-- ints below 10 ** 30, strs of small code points, lists and tuples of these -/
def LV.sm : LV → Bool
  | .non => true
  | .bl _ => true
  | .int i => decide (i.natAbs < 10 ^ 30)
  | .str s => s.all fun c => decide (c < 16 ^ 8)
  | .tup xs => LV.sms xs
  | .lst xs => LV.sms xs
  | _ => false
termination_by structural v => v
def LV.sms : List LV → Bool
  | [] => true
  | v :: vs => LV.sm v && LV.sms vs
termination_by structural v => v
end
mutual
def LV.wt : LV → Nat
  | .int _ => 100
  | .str s => s.length
  | .tup xs => LV.wts xs
  | .lst xs => LV.wts xs
  | _ => 0
termination_by structural v => v
def LV.wts : List LV → Nat
  | [] => 0
  | v :: vs => LV.wt v + 1 + LV.wts vs
termination_by structural v => v
end
mutual
def LV.dp : LV → Nat
  | .tup xs => LV.dps xs + 1
  | .lst xs => LV.dps xs + 1
  | _ => 0
termination_by structural v => v
def LV.dps : List LV → Nat
  | [] => 0
  | v :: vs => max (LV.dp v) (LV.dps vs)
termination_by structural v => v
end
theorem log2_30 {n : Nat} (h : n < 10 ^ 30) : n.log2 < 100 := by
  by_cases c : n = 0
  · subst c
    decide
  · exact (Nat.log2_lt c).mpr (Nat.lt_of_lt_of_le h (by decide))
mutual
theorem sm_ok : ∀ v : LV, v.sm = true → (pd v).showable = true ∧ (pd v).leavesShort 31 = true ∧ (pd v).weight ≤ v.wt
  | .non, _ => ⟨rfl, rfl, Nat.le_refl _⟩
  | .bl b, _ => ⟨rfl, rfl, Nat.le_refl _⟩
  | .int i, h => by
    have h1 : i.natAbs < 10 ^ 30 := of_decide_eq_true h
    have h2 := log2_30 h1
    refine ⟨?_, ?_, ?_⟩
    · show decide (i.natAbs.log2 < 1920) = true
      exact decide_eq_true (by omega)
    · show decide ((PyData.shown (.int i)).length ≤ 31) = true
      have h3 := PySem.int_text_length_le10 (a := i) (k := 30) (by decide) h1
      exact decide_eq_true (by
        show (Str.ofString (toString i)).length ≤ 31
        rw [PySem.ofString_length]
        omega)
    · show (if i == 0 then 0 else i.natAbs.log2 + 1) ≤ 100
      split <;> omega
  | .str s, h => by
    refine ⟨rfl, ?_, ?_⟩
    · show (s.toArray.toList.all fun c => decide (c < 16 ^ 8)) = true
      rw [List.toList_toArray]
      exact h
    · show s.toArray.size ≤ s.length
      rw [List.size_toArray]
      exact Nat.le_refl _
  | .tup xs, h => sms_ok xs h
  | .lst xs, h => sms_ok xs h
  | .obj _ _ _, h => by cases h
  | .dct _ _, h => by cases h
  | .ref _, h => by cases h
  | .scr _, h => by cases h
theorem sms_ok : ∀ vs : List LV, LV.sms vs = true → PyData.showableAll (pds vs) = true ∧ PyData.leavesShortAll 31 (pds vs) = true ∧ PyData.weightAll (pds vs) ≤ LV.wts vs
  | [], _ => ⟨rfl, rfl, Nat.le_refl _⟩
  | v :: vs, h => by
    have h' : v.sm = true ∧ LV.sms vs = true := by
      have : (LV.sm v && LV.sms vs) = true := h
      simpa using this
    obtain ⟨a1, a2, a3⟩ := sm_ok v h'.1
    obtain ⟨b1, b2, b3⟩ := sms_ok vs h'.2
    refine ⟨?_, ?_, ?_⟩
    · show (PyData.showable (pd v) && PyData.showableAll (pds vs)) = true
      rw [a1, b1]
      rfl
    · show (PyData.leavesShort 31 (pd v) && PyData.leavesShortAll 31 (pds vs)) = true
      rw [a2, b2]
      rfl
    · show PyData.weight (pd v) + 1 + PyData.weightAll (pds vs) ≤ LV.wt v + 1 + LV.wts vs
      omega
end
theorem sm_show {v : LV} (h : v.sm = true) (hw : v.wt ≤ 500000) : (pd v).showable = true ∧ (pd v).shown.length ≤ line := by
  obtain ⟨a1, a2, a3⟩ := sm_ok v h
  refine ⟨a1, ?_⟩
  have := PyData.shown_le 31 (by decide) (pd v) a2
  have : line = 16777216 := rfl
  omega
mutual
theorem dat_sm : ∀ (v : LV) (k : Nat) (h : Hh), v.sm = true → v.dp < k → dat k h v = some v
  | _, 0, _, _, hk => absurd hk (Nat.not_lt_zero _)
  | .non, k + 1, h, _, _ => by rw [dat] <;> (intros; contradiction)
  | .bl b, k + 1, h, _, _ => by rw [dat] <;> (intros; contradiction)
  | .int i, k + 1, h, _, _ => by rw [dat] <;> (intros; contradiction)
  | .str s, k + 1, h, _, _ => by rw [dat] <;> (intros; contradiction)
  | .tup xs, k + 1, h, hs, hk => by
    rw [dat, dats_sm xs k h hs (by have : LV.dps xs + 1 < k + 1 := hk; omega)]
    rfl
  | .lst xs, k + 1, h, hs, hk => by
    rw [dat, dats_sm xs k h hs (by have : LV.dps xs + 1 < k + 1 := hk; omega)]
    rfl
  | .obj _ _ _, _, _, h, _ => by cases h
  | .dct _ _, _, _, h, _ => by cases h
  | .ref _, _, _, h, _ => by cases h
  | .scr _, _, _, h, _ => by cases h
theorem dats_sm : ∀ (vs : List LV) (k : Nat) (h : Hh), LV.sms vs = true → LV.dps vs < k → mapO (dat k h) vs = some vs
  | [], _, _, _, _ => rfl
  | v :: vs, k, h, hs, hk => by
    have h' : v.sm = true ∧ LV.sms vs = true := by
      have : (LV.sm v && LV.sms vs) = true := hs
      simpa using this
    have hk' : max (LV.dp v) (LV.dps vs) < k := hk
    unfold mapO
    rw [dat_sm v k h h'.1 (by omega), dats_sm vs k h h'.2 (by omega)]
end
theorem dat_ref {k n : Nat} {h : Hh} {xs ys : List LV} (e : h[n]? = some (.lst xs)) (q : mapO (dat k h) xs = some ys) : dat (k + 1) h (.ref n) = some (.lst ys) := by
  rw [dat, e]
  dsimp only
  rw [q]
  rfl
theorem sms_map {α : Type} {f : α → LV} : ∀ {l : List α}, (∀ a ∈ l, (f a).sm = true) → LV.sms (l.map f) = true
  | [], _ => rfl
  | a :: l, h => by
    show (LV.sm (f a) && LV.sms (l.map f)) = true
    rw [h a (List.mem_cons_self ..), sms_map fun b hb => h b (List.mem_cons_of_mem _ hb)]
    rfl
theorem sms_all {l : List LV} (h : ∀ a ∈ l, a.sm = true) : LV.sms l = true := by
  have := sms_map (f := id) h
  rwa [List.map_id] at this
theorem wts_le {B : Nat} : ∀ {l : List LV}, (∀ a ∈ l, a.wt ≤ B) → LV.wts l ≤ l.length * (B + 1)
  | [], _ => Nat.zero_le _
  | a :: l, h => by
    have h1 := h a (List.mem_cons_self ..)
    have h2 := wts_le (l := l) fun b hb => h b (List.mem_cons_of_mem _ hb)
    show LV.wt a + 1 + LV.wts l ≤ (l.length + 1) * (B + 1)
    rw [Nat.add_mul]
    omega
theorem dps_le {B : Nat} : ∀ {l : List LV}, (∀ a ∈ l, a.dp ≤ B) → LV.dps l ≤ B
  | [], _ => Nat.zero_le _
  | a :: l, h => by
    have h1 := h a (List.mem_cons_self ..)
    have h2 := dps_le (l := l) fun b hb => h b (List.mem_cons_of_mem _ hb)
    show max (LV.dp a) (LV.dps l) ≤ B
    omega
theorem same_sm {P : Prog} {n : Nat} {h : Hh} {a b x : LV} (hP : P.fns.lookup "_law_same" = some Lc.f_law_same) (ha : dat DEEP h a = some x) (hb : dat DEEP h b = some x) (hs : x.sm = true) (hw : x.wt ≤ 500000) :
    wp (callF P (n + 1) "_law_same" [a, b] []) h fun v h' => v = .bl true ∧ h' = h :=
  same_spec hP ha hb (sm_show hs hw).1 (sm_show hs hw).2
/-- equal values -/
theorem same_eq {P : Prog} {n : Nat} {h : Hh} {a b : LV} (hP : P.fns.lookup "_law_same" = some Lc.f_law_same) (e : a = b) (hs : a.sm = true) (hw : a.wt ≤ 500000) (hd : a.dp < DEEP) :
    wp (callF P (n + 1) "_law_same" [a, b] []) h fun v h' => v = .bl true ∧ h' = h := by
  subst e
  exact same_sm hP (dat_sm a _ h hs hd) (dat_sm a _ h hs hd) hs hw
end Mn

set_option Elab.async false
set_option linter.all false
set_option maxRecDepth 100000
set_option maxHeartbeats 4000000
/-! Paths of bounds: plain Lean. -/
namespace Mx
abbrev Edg := Nat → Nat → Int → Prop
/-- a path of edges, by its sum -/
inductive Path (n : Nat) (D : Edg) : Nat → Nat → Int → Prop
  | nil (i : Nat) : Path n D i i 0
  | cons {i k j : Nat} {w s : Int} : D i k w → k < n → Path n D k j s → Path n D i j (w + s)
theorem Path.mono {n : Nat} {D D' : Edg} (h : ∀ i j w, D i j w → D' i j w) {i j : Nat} {s : Int} (p : Path n D i j s) : Path n D' i j s := by
  induction p with
  | nil i => exact .nil i
  | cons e hk _ ih => exact .cons (h _ _ _ e) hk ih
theorem Path.app {n : Nat} {D : Edg} {i k j : Nat} {s t : Int} (p : Path n D i k s) (q : Path n D k j t) : Path n D i j (s + t) := by
  induction p with
  | nil i => rw [Int.zero_add]; exact q
  | cons e hk _ ih => rw [Int.add_assoc]; exact .cons e hk (ih q)
theorem Path.one {n : Nat} {D : Edg} {i j : Nat} {w : Int} (e : D i j w) (hj : j < n) : Path n D i j w := by
  have := Path.cons e hj (.nil (n := n) (D := D) j)
  rwa [Int.add_zero] at this
/-- all gaps are reached by paths -/
def Pth (n : Nat) (D : Edg) (d : Mat) : Prop := ∀ i j, i < n → j < n → Path n D i j (d i j)
theorem Pth.congr {n : Nat} {D : Edg} {d e : Mat} (p : Pth n D d) (h : ∀ i j, i < n → j < n → d i j = e i j) : Pth n D e := fun i j hi hj => by
  rw [← h i j hi hj]
  exact p i j hi hj
theorem Pth.mono {n : Nat} {D D' : Edg} {d : Mat} (p : Pth n D d) (h : ∀ i j w, D i j w → D' i j w) : Pth n D' d := fun i j hi hj => (p i j hi hj).mono h
theorem Pth.inc {n : Nat} {D : Edg} {d : Mat} {a b : Nat} {x : Int} (p : Pth n D d) (ha : a < n) (hb : b < n) (e : D a b x) : Pth n D (inc d a b x) := fun i j hi hj => by
  unfold Mx.inc
  by_cases c : d i j ≤ d i a + x + d b j
  · rw [Int.min_eq_left c]
    exact p i j hi hj
  · rw [Int.min_eq_right (by omega), Int.add_assoc]
    exact (p i a hi ha).app (.cons e hb (p b j hb hj))
theorem path_ge {n : Nat} {D : Edg} {d : Mat} (hc : Closed n d) (hD : ∀ i j w, i < n → j < n → D i j w → d i j ≤ w) {i j : Nat} {s : Int} (p : Path n D i j s) : i < n → j < n → d i j ≤ s := by
  induction p with
  | nil i => intro hi _; rw [hc.dg i hi]; omega
  | @cons i k j w s e hk _ ih =>
    intro hi hj
    have h1 := ih hk hj
    have h2 := hD _ _ _ hi hk e
    have h3 := hc.tr i j k hi hj hk
    omega
/-- what is closed under tight edges reaches the end -/
theorem path_reach {n : Nat} {D : Edg} {d : Mat} (hc : Closed n d) (hD : ∀ i j w, i < n → j < n → D i j w → d i j ≤ w) {t : Nat} (ht : t < n) {V : Nat → Prop}
    (step : ∀ i k w, i < n → k < n → V i → D i k w → w + d k t = d i t → V k) {i j : Nat} {s : Int} (p : Path n D i j s) : j = t → i < n → s = d i t → V i → V t := by
  induction p with
  | nil i => intro e _ _ v; rw [← e]; exact v
  | @cons i k j w s e hk q ih =>
    intro et hi es v
    subst et
    have h1 := path_ge hc hD q hk ht
    have h2 := hD _ _ _ hi hk e
    have h3 := hc.tr i j k hi ht hk
    exact ih rfl hk (by omega) (step i k w hi hk v e (by omega))
end Mx

set_option Elab.async false
set_option linter.all false
set_option maxRecDepth 100000
set_option maxHeartbeats 4000000
/-! Mini, part 21: == of the same data. -/
namespace Mn
open PySem (PyData Str)
mutual
theorem eqv_sm : ∀ v : LV, v.sm = true → PyData.eqv (pd v) (pd v) = true
  | .non, _ => by simp [pd, PyData.eqv]
  | .bl b, _ => by simp [pd, PyData.eqv]
  | .int i, _ => by simp [pd, PyData.eqv]
  | .str s, _ => by simp [pd, PyData.eqv]
  | .tup xs, h => by
    have := eqvs_sm xs h
    simpa [pd, PyData.eqv] using this
  | .lst xs, h => by
    have := eqvs_sm xs h
    simpa [pd, PyData.eqv] using this
  | .obj _ _ _, h => by cases h
  | .dct _ _, h => by cases h
  | .ref _, h => by cases h
  | .scr _, h => by cases h
theorem eqvs_sm : ∀ vs : List LV, LV.sms vs = true → PyData.eqvAll (pds vs) (pds vs) = true
  | [], _ => by simp [pds, PyData.eqvAll]
  | v :: vs, h => by
    have h' : v.sm = true ∧ LV.sms vs = true := by
      have : (LV.sm v && LV.sms vs) = true := h
      simpa using this
    have h1 := eqv_sm v h'.1
    have h2 := eqvs_sm vs h'.2
    simp [pds, PyData.eqvAll, h1, h2]
end
theorem eqv_self {v : LV} (h : v.sm = true) : eqv v v = true := eqv_sm v h
theorem eqv_int {i j : Int} : eqv (.int i) (.int j) = decide (i = j) := by
  unfold eqv pd
  by_cases c : i = j <;> simp [PyData.eqv, c]
theorem eqv_bl {i j : Bool} : eqv (.bl i) (.bl j) = decide (i = j) := by
  unfold eqv pd
  by_cases c : i = j <;> simp [PyData.eqv, c]
theorem eqv_cons_nil {v : LV} {vs : List LV} : eqv (.lst (v :: vs)) (.lst []) = false := by
  simp [eqv, pd, pds, PyData.eqv, PyData.eqvAll]
end Mn

set_option Elab.async false
set_option linter.all false
set_option maxRecDepth 100000
set_option maxHeartbeats 4000000
namespace Lk75
open Mn
def b_law_source : Ss :=
    (.cons (.asg (.nm 1) (.cst (.int 4917)))
    (.cons (.forS (.nm 2) (.seq (.slice (.loc 0) .nil (.cons (.cst (.int 63)) .nil))) (.cons (.asg (.nm 1) (.bin .mod (.bcall .int (.cons (.bin .add (.bin .add (.bin .mul (.loc 1) (.cst (.int 46351))) (.bin .mod (.bcall .int (.cons (.loc 2) .nil)) (.cst (.int 2147483399)))) (.cst (.int 29))) .nil)) (.cst (.int 2147483549))))
    .nil))
    (.cons (.ret (.list true (.cons (.bcall .list (.cons (.slice (.loc 0) .nil (.cons (.cst (.int 63)) .nil)) .nil)) (.cons (.cst (.int 0)) (.cons (.cst (.int 0)) (.cons (.loc 1) (.cons (.cst (.int 0)) .nil)))))))
    .nil)))
def f_law_source : Fn := { names := ["_law_script", "_law_seed", "_law_cell"], npos := 1, dfl := [], kwo := [], star := false, body := b_law_source }

def b_law_draw : Ss :=
    (.cons (.ifS (.and (.cmp .lt (.sub (.loc 0) (.cst (.int 2))) (.loc 1)) (.cmp .lt (.sub (.loc 0) (.cst (.int 1))) (.bcall .len (.cons (.sub (.loc 0) (.cst (.int 0))) .nil)))) (.cons (.asg (.nm 3) (.sub (.sub (.loc 0) (.cst (.int 0))) (.sub (.loc 0) (.cst (.int 1)))))
    (.cons (.asg (.sub (.loc 0) (.cst (.int 1))) (.bin .add (.sub (.loc 0) (.cst (.int 1))) (.cst (.int 1))))
    (.cons (.asg (.sub (.loc 0) (.cst (.int 3))) (.bin .mod (.bcall .int (.cons (.bin .add (.bin .add (.bin .mul (.sub (.loc 0) (.cst (.int 3))) (.cst (.int 40853))) (.bin .mul (.bin .mod (.bcall .int (.cons (.loc 3) .nil)) (.cst (.int 2147483477))) (.cst (.int 59)))) (.sub (.loc 0) (.cst (.int 1)))) .nil)) (.cst (.int 2147483549))))
    (.cons (.asg (.sub (.loc 0) (.cst (.int 2))) (.ite (.cmp .ge (.loc 3) (.bin .pow (.cst (.int 10)) (.cst (.int 18)))) (.loc 3) (.cst (.int 0))))
    .nil)))) .nil)
    (.cons (.ifS (.cmp .ge (.sub (.loc 0) (.cst (.int 2))) (.loc 1)) (.cons (.asg (.nm 4) (.bin .mod (.bcall .int (.cons (.sub (.loc 0) (.cst (.int 2))) .nil)) (.loc 1)))
    (.cons (.asg (.sub (.loc 0) (.cst (.int 2))) (.bin .fdiv (.sub (.loc 0) (.cst (.int 2))) (.loc 1)))
    (.cons (.ret (.loc 4))
    .nil))) .nil)
    (.cons (.asg (.sub (.loc 0) (.cst (.int 4))) (.bin .add (.sub (.loc 0) (.cst (.int 4))) (.cst (.int 1))))
    (.cons (.asg (.nm 2) (.bin .mod (.bcall .int (.cons (.bin .add (.sub (.loc 0) (.cst (.int 3))) (.bin .mul (.sub (.loc 0) (.cst (.int 4))) (.cst (.int 7919)))) .nil)) (.cst (.int 2147483549))))
    (.cons (.asg (.sub (.loc 0) (.cst (.int 3))) (.bin .mod (.bcall .int (.cons (.bin .add (.bin .add (.bin .mul (.loc 2) (.loc 2)) (.bin .mul (.loc 2) (.cst (.int 30011)))) (.cst (.int 1299827))) .nil)) (.cst (.int 2147483549))))
    (.cons (.ret (.bin .mod (.bcall .int (.cons (.bin .add (.bin .fdiv (.sub (.loc 0) (.cst (.int 3))) (.cst (.int 61))) (.bin .mul (.bin .mod (.bcall .int (.cons (.sub (.loc 0) (.cst (.int 3))) .nil)) (.cst (.int 8087))) (.cst (.int 193)))) .nil)) (.loc 1)))
    .nil))))))
def f_law_draw : Fn := { names := ["_law_rng", "_law_many", "_law_root", "_law_cell", "_law_digit"], npos := 2, dfl := [], kwo := [], star := false, body := b_law_draw }

def b_law_mixed : Ss :=
    (.cons (.asg (.nm 2) (.list true .nil))
    (.cons (.forS (.nm 3) (.seq (.loc 1)) (.cons (.expr (.ins (.loc 2) (.call "_law_draw" (.cons (.loc 0) (.cons (.bin .add (.bcall .len (.cons (.loc 2) .nil)) (.cst (.int 1))) .nil)) [] .nil) (.loc 3)))
    .nil))
    (.cons (.ret (.frz (.loc 2)))
    .nil)))
def f_law_mixed : Fn := { names := ["_law_rng", "_law_things", "_law_found", "_law_thing"], npos := 2, dfl := [], kwo := [], star := false, body := b_law_mixed }

def b_law_same : Ss :=
    (.cons (.ret (.reprEq (.loc 0) (.loc 1)))
    .nil)
def f_law_same : Fn := { names := ["_law_found", "_law_due"], npos := 2, dfl := [], kwo := [], star := false, body := b_law_same }

def b_law : Ss :=
    (.cons (.asg (.nm 1) (.call "_law_source" (.cons (.loc 0) .nil) [] .nil))
    (.cons (.asg (.nm 2) (.comp false [4] (.call "_law_draw" (.cons (.loc 1) (.cons (.cst (.int 4)) .nil)) [] .nil) (.nm 4) (.range1 (.cst (.int 29))) .nil))
    (.cons (.asg (.tup (.cons (.nm 8) (.cons (.nm 9) .nil))) (.tup (.cons (.make "System" (.cons (.cst (.int 30)) (.cons (.cst (.int 0)) (.cons (.cst (.int 200)) .nil))) [] .nil) (.cons (.call "_law_draw" (.cons (.loc 1) (.cons (.cst (.int 40)) .nil)) [] .nil) .nil))))
    (.cons (.asg (.nm 3) (.call "_law_mixed" (.cons (.loc 1) (.cons (.lrng false (.cst (.int 29))) .nil)) [] .nil))
    (.cons (.forS (.nm 4) (.seq (.loc 3)) (.cons (.ifS (.cmp .isn (.meth (.loc 8) "add" (.cons (.bin .add (.loc 4) (.cst (.int 1))) (.cons (.bin .add (.loc 4) (.cst (.int 2))) (.cons (.bin .sub (.cst (.int 0)) (.sub (.loc 2) (.loc 4))) .nil))) [] .nil) (.cst (.bl true))) (.cons (.ret (.cst (.bl false)))
    .nil) .nil)
    .nil))
    (.cons (.asg (.nm 5) (.bcall .sum (.cons (.loc 2) .nil)))
    (.cons (.ifS (.or (.cmp .isn (.meth (.loc 8) "add" (.cons (.cst (.int 30)) (.cons (.cst (.int 1)) (.cons (.bin .sub (.loc 5) (.cst (.int 1))) .nil))) [] .nil) (.cst (.bl false))) (.cmp .isn (.meth (.loc 8) "add" (.cons (.cst (.int 30)) (.cons (.cst (.int 1)) (.cons (.bin .add (.loc 5) (.loc 9)) .nil))) [] .nil) (.cst (.bl true)))) (.cons (.ret (.cst (.bl false)))
    .nil) .nil)
    (.cons (.asg (.nm 6) (.comp false [4] (.bcall .sum (.cons (.slice (.loc 2) .nil (.cons (.loc 4) .nil)) .nil)) (.nm 4) (.range1 (.cst (.int 30))) .nil))
    (.cons (.asg (.nm 7) (.comp false [4] (.meth (.loc 8) "gap" (.cons (.cst (.int 1)) (.cons (.bin .add (.loc 4) (.cst (.int 1))) .nil)) [] .nil) (.nm 4) (.range2 (.cst (.int 1)) (.cst (.int 30))) .nil))
    (.cons (.ifS (.not (.call "_law_same" (.cons (.loc 7) (.cons (.comp false [4] (.bin .sub (.cst (.int 0)) (.sub (.loc 6) (.loc 4))) (.nm 4) (.range2 (.cst (.int 1)) (.cst (.int 30))) .nil) .nil)) [] .nil)) (.cons (.ret (.cst (.bl false)))
    .nil) .nil)
    (.cons (.asg (.nm 7) (.list false (.cons (.meth (.loc 8) "gap" (.cons (.cst (.int 30)) (.cons (.cst (.int 1)) .nil)) [] .nil) (.cons (.meth (.loc 8) "gap" (.cons (.cst (.int 30)) (.cons (.cst (.int 0)) .nil)) [] .nil) (.cons (.meth (.loc 8) "gap" (.cons (.cst (.int 0)) (.cons (.cst (.int 1)) .nil)) [] .nil) (.cons (.meth (.loc 8) "gap" (.cons (.cst (.int 1)) (.cons (.cst (.int 0)) .nil)) [] .nil) .nil))))))
    (.cons (.ifS (.not (.call "_law_same" (.cons (.loc 7) (.cons (.list false (.cons (.bin .add (.loc 5) (.loc 9)) (.cons (.cst (.int 200)) (.cons (.cst (.int 0)) (.cons (.bin .sub (.cst (.int 200)) (.loc 5)) .nil))))) .nil)) [] .nil)) (.cons (.ret (.cst (.bl false)))
    .nil) .nil)
    (.cons (.asg (.tup (.cons (.nm 10) (.cons (.nm 11) .nil))) (.tup (.cons (.meth (.loc 8) "ring" (.cons (.cst (.int 30)) (.cons (.cst (.int 1)) (.cons (.bin .sub (.loc 5) (.cst (.int 1))) .nil))) [] .nil) (.cons (.meth (.loc 8) "chain" (.cons (.cst (.int 1)) (.cons (.cst (.int 30)) .nil)) [] .nil) .nil))))
    (.cons (.ifS (.or (.cmp .ne (.sub (.loc 10) (.cst (.int 0))) (.tup (.cons (.cst (.int 30)) (.cons (.cst (.int 1)) (.cons (.bin .sub (.loc 5) (.cst (.int 1))) .nil))))) (.cmp .ge (.bcall .sum (.cons (.comp false [14] (.sub (.loc 14) (.cst (.int 2))) (.nm 14) (.seq (.loc 10)) .nil) .nil)) (.cst (.int 0)))) (.cons (.ret (.cst (.bl false)))
    .nil) .nil)
    (.cons (.ifS (.cmp .ne (.bcall .sum (.cons (.comp false [14] (.sub (.loc 14) (.cst (.int 2))) (.nm 14) (.seq (.loc 11)) .nil) .nil)) (.bin .sub (.cst (.int 0)) (.loc 5))) (.cons (.ret (.cst (.bl false)))
    .nil) .nil)
    (.cons (.ifS (.or (.cmp .ne (.sub (.sub (.loc 11) (.cst (.int 0))) (.cst (.int 0))) (.cst (.int 1))) (.or (.cmp .ne (.sub (.sub (.loc 11) (.neg (.cst (.int 1)))) (.cst (.int 1))) (.cst (.int 30))) (.cmp .ne (.lenO (.loc 8)) (.cst (.int 30))))) (.cons (.ret (.cst (.bl false)))
    .nil) .nil)
    (.cons (.asg (.tup (.cons (.nm 12) (.cons (.nm 13) .nil))) (.tup (.cons (.meth (.loc 8) "farthest" (.cons (.cst (.int 1)) .nil) [] .nil) (.cons (.meth (.loc 8) "nearest" (.cons (.cst (.int 30)) .nil) [] .nil) .nil))))
    (.cons (.ifS (.not (.call "_law_same" (.cons (.list false (.cons (.sub (.loc 12) (.cst (.int 1))) (.cons (.sub (.loc 13) (.cst (.int 30))) .nil))) (.cons (.list false (.cons (.cst (.int 0)) (.cons (.cst (.int 200)) .nil))) .nil)) [] .nil)) (.cons (.ret (.cst (.bl false)))
    .nil) .nil)
    (.cons (.ret (.call "_law_same" (.cons (.list false (.cons (.bin .sub (.sub (.loc 12) (.cst (.int 30))) (.sub (.loc 12) (.cst (.int 1)))) (.cons (.bin .sub (.sub (.loc 13) (.cst (.int 30))) (.sub (.loc 13) (.cst (.int 1)))) .nil))) (.cons (.bin .mul (.list true (.cons (.bin .add (.loc 5) (.loc 9)) .nil)) (.cst (.int 2))) .nil)) [] .nil))
    .nil)))))))))))))))))))
def f_law : Fn := { names := ["_law_script", "_law_rng", "_law_steps", "_law_order", "_law_at", "_law_total", "_law_sums", "_law_found", "_law_made", "_law_room", "_law_ring", "_law_chain", "_law_far", "_law_near", "_law_bound"], npos := 1, dfl := [], kwo := [], star := false, body := b_law }

def b_System_init : Ss :=
    (.cons (.asg (.attr (.loc 0) "size") (.bin .add (.loc 1) (.cst (.int 1))))
    (.cons (.asg (.attr (.loc 0) "low") (.loc 2))
    (.cons (.asg (.attr (.loc 0) "high") (.loc 3))
    (.cons (.asg (.attr (.loc 0) "own_bounds") (.list true .nil))
    (.cons (.asg (.attr (.loc 0) "far") (.comp true [4] (.comp true [5] (.meth (.loc 0) "free_gap" (.cons (.loc 4) (.cons (.loc 5) .nil)) [] .nil) (.nm 5) (.range1 (.attr (.loc 0) "size")) .nil) (.nm 4) (.range1 (.attr (.loc 0) "size")) .nil))
    .nil)))))
def f_System_init : Fn := { names := ["self", "many", "low", "high", "one", "other"], npos := 4, dfl := [], kwo := [], star := false, body := b_System_init }

def b_System_free_gap : Ss :=
    (.cons (.ifS (.cmp .eq (.loc 1) (.loc 2)) (.cons (.ret (.cst (.int 0)))
    .nil) .nil)
    (.cons (.ifS (.cmp .eq (.loc 1) (.cst (.int 0))) (.cons (.ret (.neg (.attr (.loc 0) "low")))
    .nil) .nil)
    (.cons (.ret (.ite (.cmp .eq (.loc 2) (.cst (.int 0))) (.attr (.loc 0) "high") (.bin .sub (.attr (.loc 0) "high") (.attr (.loc 0) "low"))))
    .nil)))
def f_System_free_gap : Fn := { names := ["self", "one", "other"], npos := 3, dfl := [], kwo := [], star := false, body := b_System_free_gap }

def b_System_gap : Ss :=
    (.cons (.ret (.sub (.sub (.attr (.loc 0) "far") (.loc 1)) (.loc 2)))
    .nil)
def f_System_gap : Fn := { names := ["self", "one", "other"], npos := 3, dfl := [], kwo := [], star := false, body := b_System_gap }

def b_System_can_add : Ss :=
    (.cons (.ret (.cmp .ge (.bin .add (.sub (.sub (.attr (.loc 0) "far") (.loc 2)) (.loc 1)) (.loc 3)) (.cst (.int 0))))
    .nil)
def f_System_can_add : Fn := { names := ["self", "one", "other", "most"], npos := 4, dfl := [], kwo := [], star := false, body := b_System_can_add }

def b_System_add : Ss :=
    (.cons (.ifS (.not (.meth (.loc 0) "can_add" (.cons (.loc 1) (.cons (.loc 2) (.cons (.loc 3) .nil))) [] .nil)) (.cons (.ret (.cst (.bl false)))
    .nil) .nil)
    (.cons (.expr (.bmeth (.attr (.loc 0) "own_bounds") .append (.cons (.tup (.cons (.loc 1) (.cons (.loc 2) (.cons (.loc 3) .nil)))) .nil)))
    (.cons (.ifS (.cmp .lt (.loc 3) (.sub (.sub (.attr (.loc 0) "far") (.loc 1)) (.loc 2))) (.cons (.expr (.meth (.loc 0) "tighten" (.cons (.loc 1) (.cons (.loc 2) (.cons (.loc 3) .nil))) [] .nil))
    .nil) .nil)
    (.cons (.ret (.cst (.bl true)))
    .nil))))
def f_System_add : Fn := { names := ["self", "one", "other", "most"], npos := 4, dfl := [], kwo := [], star := false, body := b_System_add }

def b_System_tighten : Ss :=
    (.cons (.asg (.nm 4) (.bcall .list (.cons (.sub (.attr (.loc 0) "far") (.loc 2)) .nil)))
    (.cons (.forS (.nm 5) (.seq (.attr (.loc 0) "far")) (.cons (.ifS (.cmp .lt (.bin .add (.sub (.loc 5) (.loc 1)) (.loc 3)) (.sub (.loc 5) (.loc 2))) (.cons (.asg (.nm 6) (.bin .add (.sub (.loc 5) (.loc 1)) (.loc 3)))
    (.cons (.forS (.tup (.cons (.nm 7) (.cons (.nm 8) .nil))) (.enum (.loc 4)) (.cons (.ifS (.cmp .lt (.bin .add (.loc 6) (.loc 8)) (.sub (.loc 5) (.loc 7))) (.cons (.asg (.sub (.loc 5) (.loc 7)) (.bin .add (.loc 6) (.loc 8)))
    .nil) .nil)
    .nil))
    .nil)) .nil)
    .nil))
    .nil))
def f_System_tighten : Fn := { names := ["self", "one", "other", "most", "behind", "row", "head", "at", "rest"], npos := 4, dfl := [], kwo := [], star := false, body := b_System_tighten }

def b_System_edges : Ss :=
    (.cons (.asg (.nm 1) (.comp true [2] (.list true .nil) (.nm 2) (.range1 (.attr (.loc 0) "size")) .nil))
    (.cons (.forS (.nm 2) (.range2 (.cst (.int 1)) (.attr (.loc 0) "size")) (.cons (.expr (.bmeth (.sub (.loc 1) (.cst (.int 0))) .append (.cons (.tup (.cons (.cst (.int 0)) (.cons (.loc 2) (.cons (.neg (.attr (.loc 0) "low")) .nil)))) .nil)))
    (.cons (.expr (.bmeth (.sub (.loc 1) (.loc 2)) .append (.cons (.tup (.cons (.loc 2) (.cons (.cst (.int 0)) (.cons (.attr (.loc 0) "high") .nil)))) .nil)))
    .nil)))
    (.cons (.forS (.nm 3) (.seq (.attr (.loc 0) "own_bounds")) (.cons (.expr (.bmeth (.sub (.loc 1) (.sub (.loc 3) (.cst (.int 0)))) .append (.cons (.loc 3) .nil)))
    .nil))
    (.cons (.ret (.frz (.loc 1)))
    .nil))))
def f_System_edges : Fn := { names := ["self", "found", "at", "bound"], npos := 1, dfl := [], kwo := [], star := false, body := b_System_edges }

def b_System_chain : Ss :=
    (.cons (.asg (.tup (.cons (.nm 3) (.cons (.nm 4) (.cons (.nm 5) (.cons (.nm 6) .nil))))) (.tup (.cons (.meth (.loc 0) "edges" .nil [] .nil) (.cons (.dict1 (.loc 1) (.cst .non)) (.cons (.list true (.cons (.loc 1) .nil)) (.cons (.cst (.int 0)) .nil))))))
    (.cons (.whileS (.cmp .nin (.loc 2) (.loc 4)) (.cons (.asg (.nm 7) (.sub (.loc 5) (.loc 6)))
    (.cons (.forS (.nm 8) (.seq (.sub (.loc 3) (.loc 7))) (.cons (.asg (.nm 9) (.sub (.loc 8) (.cst (.int 1))))
    (.cons (.ifS (.and (.cmp .nin (.loc 9) (.loc 4)) (.cmp .eq (.bin .add (.sub (.loc 8) (.cst (.int 2))) (.sub (.sub (.attr (.loc 0) "far") (.loc 9)) (.loc 2))) (.sub (.sub (.attr (.loc 0) "far") (.loc 7)) (.loc 2)))) (.cons (.asg (.sub (.loc 4) (.loc 9)) (.loc 8))
    (.cons (.expr (.bmeth (.loc 5) .append (.cons (.loc 9) .nil)))
    .nil)) .nil)
    .nil)))
    (.cons (.aug 6 .add (.cst (.int 1)))
    .nil))))
    (.cons (.ret (.meth (.loc 0) "walked_back" (.cons (.loc 4) (.cons (.loc 2) .nil)) [] .nil))
    .nil)))
def f_System_chain : Fn := { names := ["self", "one", "other", "edges", "parents", "line", "at", "spot", "bound", "goal"], npos := 3, dfl := [], kwo := [], star := false, body := b_System_chain }

def b_System_walked_back : Ss :=
    (.cons (.asg (.nm 3) (.list true .nil))
    (.cons (.whileS (.cmp .isn (.sub (.loc 1) (.loc 2)) (.cst .non)) (.cons (.expr (.bmeth (.loc 3) .append (.cons (.sub (.loc 1) (.loc 2)) .nil)))
    (.cons (.asg (.nm 2) (.sub (.sub (.loc 1) (.loc 2)) (.cst (.int 0))))
    .nil)))
    (.cons (.ret (.rev false (.loc 3)))
    .nil)))
def f_System_walked_back : Fn := { names := ["self", "parents", "spot", "found"], npos := 3, dfl := [], kwo := [], star := false, body := b_System_walked_back }

def b_System_ring : Ss :=
    (.cons (.ifS (.meth (.loc 0) "can_add" (.cons (.loc 1) (.cons (.loc 2) (.cons (.loc 3) .nil))) [] .nil) (.cons (.ret (.cst .non))
    .nil) .nil)
    (.cons (.ret (.list false (.cons (.tup (.cons (.loc 1) (.cons (.loc 2) (.cons (.loc 3) .nil)))) (.star (.meth (.loc 0) "chain" (.cons (.loc 2) (.cons (.loc 1) .nil)) [] .nil) .nil))))
    .nil))
def f_System_ring : Fn := { names := ["self", "one", "other", "most"], npos := 4, dfl := [], kwo := [], star := false, body := b_System_ring }

def b_System_farthest : Ss :=
    (.cons (.asg (.nm 2) (.neg (.sub (.sub (.attr (.loc 0) "far") (.cst (.int 0))) (.loc 1))))
    (.cons (.ret (.comp false [3] (.bin .add (.loc 2) (.sub (.loc 3) (.loc 1))) (.nm 3) (.seq (.attr (.loc 0) "far")) .nil))
    .nil))
def f_System_farthest : Fn := { names := ["self", "spot", "least", "row"], npos := 2, dfl := [], kwo := [], star := false, body := b_System_farthest }

def b_System_nearest : Ss :=
    (.cons (.asg (.nm 2) (.sub (.sub (.attr (.loc 0) "far") (.loc 1)) (.cst (.int 0))))
    (.cons (.ret (.comp false [3] (.bin .sub (.loc 2) (.loc 3)) (.nm 3) (.seq (.sub (.attr (.loc 0) "far") (.loc 1))) .nil))
    .nil))
def f_System_nearest : Fn := { names := ["self", "spot", "most", "gap"], npos := 2, dfl := [], kwo := [], star := false, body := b_System_nearest }

def b_System_len : Ss :=
    (.cons (.ret (.bcall .len (.cons (.attr (.loc 0) "own_bounds") .nil)))
    .nil)
def f_System_len : Fn := { names := ["self"], npos := 1, dfl := [], kwo := [], star := false, body := b_System_len }

def P : Prog := { defs := ["_law_source", "_law_draw", "_law_mixed", "_law_same", "law"], fns := [("_law_source", f_law_source), ("_law_draw", f_law_draw), ("_law_mixed", f_law_mixed), ("_law_same", f_law_same), ("law", f_law), ("System.__init__", f_System_init), ("System.free_gap", f_System_free_gap), ("System.gap", f_System_gap), ("System.can_add", f_System_can_add), ("System.add", f_System_add), ("System.tighten", f_System_tighten), ("System.edges", f_System_edges), ("System.chain", f_System_chain), ("System.walked_back", f_System_walked_back), ("System.ring", f_System_ring), ("System.farthest", f_System_farthest), ("System.nearest", f_System_nearest), ("System.__len__", f_System_len)], cls := [("System", { init := "System.__init__", meths := [("free_gap", "System.free_gap"), ("gap", "System.gap"), ("can_add", "System.can_add"), ("add", "System.add"), ("tighten", "System.tighten"), ("edges", "System.edges"), ("chain", "System.chain"), ("walked_back", "System.walked_back"), ("ring", "System.ring"), ("farthest", "System.farthest"), ("nearest", "System.nearest"), ("__len__", "System.__len__")], fields := ["size", "low", "high", "own_bounds", "far"] })], glob := [], wn := 100000 }
section
open PySem PySem.Spec PyProof.Rows L2
abbrev PW : PySem.Program := PySem.Challenge.pw_cutranks_k75_long_systems
def top (i : Nat) : PySem.Stmt := PW.main.body.getD i (.Pass ⟨0, 0, 0, 0⟩)
def clsAt (s : PySem.Stmt) (k : Nat) : PySem.Stmt := match s with
  | .ClassDef _ _ _ body _ _ _ _ _ _ _ => body.getD k (.Pass ⟨0, 0, 0, 0⟩)
  | _ => s
abbrev s_law_source : PySem.Stmt := top 4
abbrev s_law_draw : PySem.Stmt := top 5
abbrev s_law_mixed : PySem.Stmt := top 6
abbrev s_law_same : PySem.Stmt := top 7
abbrev s_law : PySem.Stmt := top 8
abbrev s_System_init : PySem.Stmt := clsAt (top 2) 0
abbrev s_System_free_gap : PySem.Stmt := clsAt (top 2) 1
abbrev s_System_gap : PySem.Stmt := clsAt (top 2) 2
abbrev s_System_can_add : PySem.Stmt := clsAt (top 2) 3
abbrev s_System_add : PySem.Stmt := clsAt (top 2) 4
abbrev s_System_tighten : PySem.Stmt := clsAt (top 2) 5
abbrev s_System_edges : PySem.Stmt := clsAt (top 2) 6
abbrev s_System_chain : PySem.Stmt := clsAt (top 2) 7
abbrev s_System_walked_back : PySem.Stmt := clsAt (top 2) 8
abbrev s_System_ring : PySem.Stmt := clsAt (top 2) 9
abbrev s_System_farthest : PySem.Stmt := clsAt (top 2) 10
abbrev s_System_nearest : PySem.Stmt := clsAt (top 2) 11
abbrev s_System_len : PySem.Stmt := clsAt (top 2) 14
def d_law_source : He.DefD := ⟨("_law_source", none), "_law_source", "_law_source", defArgs s_law_source, defBody s_law_source, defScope s_law_source, [], []⟩
def d_law_draw : He.DefD := ⟨("_law_draw", none), "_law_draw", "_law_draw", defArgs s_law_draw, defBody s_law_draw, defScope s_law_draw, [], []⟩
def d_law_mixed : He.DefD := ⟨("_law_mixed", none), "_law_mixed", "_law_mixed", defArgs s_law_mixed, defBody s_law_mixed, defScope s_law_mixed, [], []⟩
def d_law_same : He.DefD := ⟨("_law_same", none), "_law_same", "_law_same", defArgs s_law_same, defBody s_law_same, defScope s_law_same, [], []⟩
def d_law : He.DefD := ⟨("law", none), "law", "law", defArgs s_law, defBody s_law, defScope s_law, [], []⟩
def d_System_init : He.DefD := ⟨("System", some "__init__"), "__init__", "System.__init__", defArgs s_System_init, defBody s_System_init, defScope s_System_init, [], []⟩
def d_System_free_gap : He.DefD := ⟨("System", some "free_gap"), "free_gap", "System.free_gap", defArgs s_System_free_gap, defBody s_System_free_gap, defScope s_System_free_gap, [], []⟩
def d_System_gap : He.DefD := ⟨("System", some "gap"), "gap", "System.gap", defArgs s_System_gap, defBody s_System_gap, defScope s_System_gap, [], []⟩
def d_System_can_add : He.DefD := ⟨("System", some "can_add"), "can_add", "System.can_add", defArgs s_System_can_add, defBody s_System_can_add, defScope s_System_can_add, [], []⟩
def d_System_add : He.DefD := ⟨("System", some "add"), "add", "System.add", defArgs s_System_add, defBody s_System_add, defScope s_System_add, [], []⟩
def d_System_tighten : He.DefD := ⟨("System", some "tighten"), "tighten", "System.tighten", defArgs s_System_tighten, defBody s_System_tighten, defScope s_System_tighten, [], []⟩
def d_System_edges : He.DefD := ⟨("System", some "edges"), "edges", "System.edges", defArgs s_System_edges, defBody s_System_edges, defScope s_System_edges, [], []⟩
def d_System_chain : He.DefD := ⟨("System", some "chain"), "chain", "System.chain", defArgs s_System_chain, defBody s_System_chain, defScope s_System_chain, [], []⟩
def d_System_walked_back : He.DefD := ⟨("System", some "walked_back"), "walked_back", "System.walked_back", defArgs s_System_walked_back, defBody s_System_walked_back, defScope s_System_walked_back, [], []⟩
def d_System_ring : He.DefD := ⟨("System", some "ring"), "ring", "System.ring", defArgs s_System_ring, defBody s_System_ring, defScope s_System_ring, [], []⟩
def d_System_farthest : He.DefD := ⟨("System", some "farthest"), "farthest", "System.farthest", defArgs s_System_farthest, defBody s_System_farthest, defScope s_System_farthest, [], []⟩
def d_System_nearest : He.DefD := ⟨("System", some "nearest"), "nearest", "System.nearest", defArgs s_System_nearest, defBody s_System_nearest, defScope s_System_nearest, [], []⟩
def d_System_len : He.DefD := ⟨("System", some "__len__"), "__len__", "System.__len__", defArgs s_System_len, defBody s_System_len, defScope s_System_len, [], []⟩
def In : Inst := { P := P, tab := [("_law_source", ("_law_source", none)), ("_law_draw", ("_law_draw", none)), ("_law_mixed", ("_law_mixed", none)), ("_law_same", ("_law_same", none)), ("law", ("law", none)), ("System.__init__", ("System", some "__init__")), ("System.free_gap", ("System", some "free_gap")), ("System.gap", ("System", some "gap")), ("System.can_add", ("System", some "can_add")), ("System.add", ("System", some "add")), ("System.tighten", ("System", some "tighten")), ("System.edges", ("System", some "edges")), ("System.chain", ("System", some "chain")), ("System.walked_back", ("System", some "walked_back")), ("System.ring", ("System", some "ring")), ("System.farthest", ("System", some "farthest")), ("System.nearest", ("System", some "nearest")), ("System.__len__", ("System", some "__len__"))], fn := [d_law_source, d_law_draw, d_law_mixed, d_law_same, d_law, d_System_init, d_System_free_gap, d_System_gap, d_System_can_add, d_System_add, d_System_tighten, d_System_edges, d_System_chain, d_System_walked_back, d_System_ring, d_System_farthest, d_System_nearest, d_System_len] }
theorem wf : In.wf = true := by decide +kernel
theorem okz : okZip In In.P.fns In.fn = true := by decide +kernel
end
end Lk75

set_option Elab.async false
set_option linter.all false
set_option maxRecDepth 100000
set_option maxHeartbeats 4000000
namespace Lk75
open Mn Mx
def rowL (n : Nat) (d : Mat) (i : Nat) : List LV := (List.range n).map fun j => LV.int (d i j)
structure Sys (s n : Nat) (lo hi : Int) (bs : List LV) (d : Mat) (h : Hh) : Prop where
  ins : h[s]? = some (.ins "System" [("size", .int n), ("low", .int lo), ("high", .int hi), ("own_bounds", .ref (s + 1)), ("far", .ref (s + 2 + n))])
  bnd : h[s + 1]? = some (.lst bs)
  out : h[s + 2 + n]? = some (.lst ((List.range n).map fun i => .ref (s + 2 + i)))
  row : ∀ i, i < n → h[s + 2 + i]? = some (.lst (rowL n d i))
theorem at_range {α : Type} {n : Nat} {f : Nat → α} {i : Nat} (hi : i < n) : L2.atI ((List.range n).map f) (i : Int) = some (f i) :=
  L2.atI_nat (by rw [List.getElem?_map, List.getElem?_range hi]; rfl)
section
variable {m : Nat} {h : Hh} {s n : Nat} {lo hi : Int} {bs : List LV} {d : Mat}
local macro_rules | `(tactic| infer_instance) => `(tactic| first
  | (with_reducible refine w_loc.mpr ?_); refine wpO_some.mpr ?_
  | (with_reducible (first | refine w_cst.mpr ?_ | refine ws_cons.mpr ?_ | refine ws_nil.mpr ?_ | refine w_sub.mpr ?_ | refine w_bin.mpr ?_ | refine w_cmp.mpr ?_ | refine w_bcall.mpr ?_ | refine w_call.mpr ?_ | refine w_and.mpr ?_ | refine w_or.mpr ?_ | refine w_not.mpr ?_ | refine w_ite.mpr ?_ | refine w_chain.mpr ?_ | refine w_tup.mpr ?_ | refine w_list.mpr ?_ | refine w_comp.mpr ?_ | refine w_frz.mpr ?_ | refine w_slice.mpr ?_ | refine w_attr.mpr ?_ | refine w_meth.mpr ?_ | refine w_bmeth.mpr ?_ | refine w_bm0.mpr ?_ | refine w_dict1.mpr ?_ | refine w_rev.mpr ?_ | refine w_ins.mpr ?_ | refine w_lrng.mpr ?_ | refine w_isI.mpr ?_ | refine v_isN.mpr ?_ | refine v_isnN.mpr ?_ | refine v_isB.mpr ?_ | refine v_isnB.mpr ?_ | refine w_neg.mpr ?_ | refine w_repr.mpr ?_ | refine xs_cons.mpr ?_ | refine xs_nil.mpr ?_ | refine x_asg.mpr ?_ | refine x_if.mpr ?_ | refine x_ret.mpr ?_ | refine x_expr.mpr ?_ | refine x_for.mpr ?_ | refine x_while.mpr ?_ | refine x_pass.mpr ?_ | refine x_retN.mpr ?_ | refine x_brk.mpr ?_ | refine x_cont.mpr ?_ | refine wpF_nx.mpr ?_ | refine wpF_rt.mpr ?_ | refine wpF_bk.mpr ?_ | refine wpF_ct.mpr ?_ | refine end_rt.mpr ?_ | refine end_nx.mpr ?_ | refine wpB_bl.mpr ?_ | refine wpT_tup.mpr ?_ | refine wt_nm.mpr ?_ | refine wt_tup.mpr ?_ | refine wt_sub.mpr ?_ | refine wt_attr.mpr ?_ | refine wts_cons.mpr ?_ | refine wts_nil.mpr ?_ | refine wi_seq.mpr ?_ | refine wi_enum.mpr ?_ | refine wi_zip.mpr ?_ | refine v_lstM ls_lst ?_ | refine v_min.mpr ?_ | refine v_max.mpr ?_ | refine wi_range1.mpr ?_ | refine wi_range2.mpr ?_ | refine wpI_int.mpr ?_ | refine wc_nil.mpr ?_ | refine wc_one.mpr ?_ | refine v_add.mpr ?_ | refine v_sub.mpr ?_ | refine v_lt.mpr ?_ | refine v_le.mpr ?_ | refine v_gt.mpr ?_ | refine v_ge.mpr ?_ | refine v_int.mpr ?_ | refine v_neg.mpr ?_ | refine v_augadd.mpr ?_ | refine v_augsub.mpr ?_ | refine v_eqInt.mpr ?_ | refine v_neInt.mpr ?_ | refine v_inStr.mpr ?_ | refine v_chkJ.mpr ?_ | refine part_nil.mpr ?_ | refine part_int.mpr ?_ | refine wpL_nx.mpr ?_ | refine wpL_ct.mpr ?_ | refine wpL_bk.mpr ?_ | refine wpL_rt.mpr ?_ | refine v_slScr.mpr ?_ | refine v_slTup.mpr ?_ | refine v_slLst.mpr ?_ | refine v_walkS.mpr ?_ | refine v_list sq_lst ?_ | refine v_list sq_tup ?_ | refine v_tuple sq_lst ?_ | refine v_tuple sq_tup ?_ | refine v_walk sq_lst ?_ | refine v_walk sq_tup ?_))
  | (with_reducible refine w_glo.mpr ?_); refine wpO_some.mpr ?_
  | (with_reducible refine x_aug.mpr ?_); refine wpO_some.mpr ?_
  | (with_reducible apply v_sub_sq (sq_ref (by assumption))); · rfl
  | (with_reducible apply v_sub_sq sq_tup); · rfl
  | (with_reducible apply v_set1 (by assumption)); · rfl
    · rfl
    intro _ _ _
  | (with_reducible refine v_mod.mpr ⟨?_, ?_⟩); · (first | decide | omega)
  | (with_reducible refine v_fdiv.mpr ⟨⟨?_, ?_⟩, ?_⟩); · (first | decide | omega)
    · (first | decide | assumption | (unfold BIG; omega))
  | (with_reducible refine v_mul.mpr ⟨⟨small_of ?_ ?_, small_of ?_ ?_⟩, ?_⟩); · (first | decide | omega)
    · (first | decide | omega)
    · (first | decide | omega)
    · (first | decide | omega)
  | (with_reducible refine v_pow.mpr ⟨⟨?_, ?_, ?_⟩, ?_⟩); · decide
    · decide
    · decide
  | (with_reducible refine v_len (sq_lst) ?_)
  | (with_reducible refine v_len (sq_ref (by assumption)) ?_)
  | (with_reducible refine v_mkF.mpr ⟨?_, ?_⟩); · (simp [line] <;> done)
  | (with_reducible refine v_mkM.mpr ⟨?_, ?_⟩); · (simp [line] <;> done)
  | (with_reducible refine v_mkT.mpr ⟨?_, ?_⟩); · (simp [line] <;> done)
  | (with_reducible apply v_getA (by assumption)); · rfl
    · rfl
  | (with_reducible apply v_methM (by assumption)); · rfl
    · rfl
    · rfl
  | (with_reducible apply v_setA (by assumption)); · rfl
    · (show _ < 1000; first | decide | (simp [putF]; done))
    · rfl
    intro _ _ _
  | (with_reducible refine w_lenO.mpr ?_))
theorem gap_spec (S : Sys s n lo hi bs d h) {i j : Nat} (hi_ : i < n) (hj : j < n) {args : List LV} {kws : List (String × LV)} (hb : bindF f_System_gap args kws = some [.ref s, .int i, .int j]) : wp (callF P (m + 1) "System.gap" args kws) h fun v h' => v = .int (d i j) ∧ h' = h := by
  refine callF_w rfl hb ?_
  show wp (exSs P (callF P m) b_System_gap [some (.ref s), some (.int i), some (.int j)]) h _
  unfold b_System_gap
  have e1 := S.ins
  have e2 := S.out
  have e3 := S.row i hi_
  repeat infer_instance
  refine v_sub_sq (sq_ref e2) (at_range hi_) ?_
  repeat infer_instance
  refine v_sub_sq (sq_ref e3) (at_range hj) ?_
  repeat infer_instance
  exact ⟨rfl, rfl⟩
theorem can_spec (S : Sys s n lo hi bs d h) {i j : Nat} {x : Int} (hi_ : i < n) (hj : j < n) : wp (callF P (m + 1) "System.can_add" [.ref s, .int i, .int j, .int x] []) h fun v h' => v = .bl (decide (0 ≤ d j i + x)) ∧ h' = h := by
  refine callF_w rfl (vs := [.ref s, .int i, .int j, .int x]) rfl ?_
  show wp (exSs P (callF P m) b_System_can_add [some (.ref s), some (.int i), some (.int j), some (.int x)]) h _
  unfold b_System_can_add
  have e1 := S.ins
  have e2 := S.out
  have e3 := S.row j hj
  repeat infer_instance
  refine v_sub_sq (sq_ref e2) (at_range hj) ?_
  repeat infer_instance
  refine v_sub_sq (sq_ref e3) (at_range hi_) ?_
  repeat infer_instance
  exact ⟨rfl, rfl⟩
theorem len_spec (S : Sys s n lo hi bs d h) : wp (callF P (m + 1) "System.__len__" [.ref s] []) h fun v h' => v = .int bs.length ∧ h' = h := by
  refine callF_w rfl (vs := [.ref s]) rfl ?_
  show wp (exSs P (callF P m) b_System_len [some (.ref s)]) h _
  unfold b_System_len
  have e1 := S.ins
  have e2 := S.bnd
  repeat infer_instance
  exact ⟨rfl, rfl⟩
/-- rows below r are done, in row r the places below c -/
def mix (d e : Mat) (r c : Nat) : Mat := fun i j => if i < r ∨ (i = r ∧ j < c) then e i j else d i j
theorem rowL_congr {n : Nat} {d e : Mat} {i : Nat} (h : ∀ j, j < n → d i j = e i j) : rowL n d i = rowL n e i := by
  unfold rowL
  exact List.map_congr_left fun j hj => by rw [h j (List.mem_range.mp hj)]
theorem Sys.congr {d e : Mat} (S : Sys s n lo hi bs d h) (he : ∀ i j, i < n → j < n → d i j = e i j) : Sys s n lo hi bs e h :=
  ⟨S.ins, S.bnd, S.out, fun i hi => by rw [S.row i hi, rowL_congr fun j hj => he i j hi hj]⟩
/-- a row is written -/
theorem Sys.setRow {d e : Mat} (S : Sys s n lo hi bs d h) {r : Nat} (hr : r < n) (he : ∀ i j, i < n → j < n → i ≠ r → d i j = e i j) : Sys s n lo hi bs e (h.set (s + 2 + r) (.lst (rowL n e r))) where
  ins := by rw [List.getElem?_set_ne (by omega)]; exact S.ins
  bnd := by rw [List.getElem?_set_ne (by omega)]; exact S.bnd
  out := by rw [List.getElem?_set_ne (by omega)]; exact S.out
  row := fun i hi => by
    by_cases c : i = r
    · subst c
      exact List.getElem?_set_self (List.getElem?_eq_some_iff.mp (S.row i hi)).1
    · rw [List.getElem?_set_ne (by omega), S.row i hi, rowL_congr fun j hj => he i j hi hj c]
theorem rowL_set {n : Nat} {d : Mat} {i j : Nat} {x : Int} (hj : j < n) : (rowL n d i).set j (.int x) = rowL n (fun a b => if a = i ∧ b = j then x else d a b) i := by
  unfold rowL
  refine List.ext_getElem? fun k => ?_
  by_cases c : j = k
  · subst c
    rw [List.getElem?_set_self (by simpa using hj), List.getElem?_map, List.getElem?_range hj]
    simp
  · rw [List.getElem?_set_ne c, List.getElem?_map, List.getElem?_map]
    cases e : (List.range n)[k]? with
    | none => rfl
    | some z =>
      have hz : z = k := by
        obtain ⟨h1, h2⟩ := List.getElem?_eq_some_iff.mp e
        simpa using h2.symm
      subst hz
      simp [Ne.symm c]
theorem tight_spec (S : Sys s n lo hi bs d h) (hc : Closed n d) {a b : Nat} {x : Int} (ha : a < n) (hb : b < n) : wp (callF P (m + 1) "System.tighten" [.ref s, .int a, .int b, .int x] []) h fun v h' => v = .non ∧ Sys s n lo hi bs (inc d a b x) h' ∧ h'.length = h.length ∧ ∀ k, k < s ∨ s + 2 + n < k → h'[k]? = h[k]? := by
  refine callF_w rfl (vs := [.ref s, .int a, .int b, .int x]) rfl ?_
  show wp (exSs P (callF P m) b_System_tighten [some (.ref s), some (.int a), some (.int b), some (.int x), none, none, none, none, none]) h _
  unfold b_System_tighten
  have e1 := S.ins
  have e2 := S.out
  have e3 := S.row b hb
  repeat infer_instance
  refine v_sub_sq (sq_ref e2) (at_range hb) ?_
  repeat infer_instance
  refine v_list (sq_ref e3) ?_
  repeat infer_instance
  refine v_walk (sq_ref e2) ?_
  refine for_inv (fun i env h' => (∃ e5 e6 e7 e8, env = [some (.ref s), some (.int a), some (.int b), some (.int x), some (.lst (rowL n d b)), e5, e6, e7, e8]) ∧ Sys s n lo hi bs (mix d (inc d a b x) i 0) h' ∧ h'.length = h.length ∧ ∀ k, k < s ∨ s + 2 + n < k → h'[k]? = h[k]?) _ 0 _ _ ⟨⟨_, _, _, _, rfl⟩, S.congr (fun i j _ _ => by simp [mix]), rfl, fun _ _ => rfl⟩ ?_ ?_ ?_
  · rintro i env h' ⟨_, S', _⟩
    have e := S'.out
    show still (.ref _) _ h' = true
    unfold still
    dsimp only
    rw [e]
    exact LV.sames_refl _
  · rintro i y env h1 hy ⟨⟨e5, e6, e7, e8, ee⟩, S1, l1, f1⟩
    subst ee
    have hi_ : i < n := by simpa using (List.getElem?_eq_some_iff.mp hy).1
    have ey : y = .ref (s + 2 + i) := by
      have h2 : ((List.range n).map fun i => LV.ref (s + 2 + i))[i]? = some y := hy
      rw [List.getElem?_map, List.getElem?_range hi_] at h2
      cases h2
      rfl
    subst ey
    rw [Nat.zero_add] at S1 ⊢
    have r1 := S1.row i hi_
    have m1 : ∀ j, mix d (inc d a b x) i 0 i j = d i j := fun j => by simp [mix]
    repeat infer_instance
    refine v_sub_sq (sq_ref r1) (at_range ha) ?_
    repeat infer_instance
    refine v_sub_sq (sq_ref r1) (at_range hb) ?_
    rw [m1, m1]
    repeat infer_instance
    refine dec2 (fun c1 => ?_) (fun c1 => ?_)
    · repeat infer_instance
      refine v_sub_sq (sq_ref r1) (at_range ha) ?_
      rw [m1]
      repeat infer_instance
      refine for_inv (fun j env h' => (∃ e7 e8, env = [some (.ref s), some (.int a), some (.int b), some (.int x), some (.lst (rowL n d b)), some (.ref (s + 2 + i)), some (.int (d i a + x)), e7, e8]) ∧ Sys s n lo hi bs (mix d (inc d a b x) i j) h' ∧ h'.length = h.length ∧ ∀ k, k < s ∨ s + 2 + n < k → h'[k]? = h[k]?) _ 0 _ _ ⟨⟨_, _, rfl⟩, S1, l1, f1⟩ (fun _ _ _ _ => rfl) ?_ ?_
      · rintro j z env h2 hz ⟨⟨e7', e8', ee⟩, S2, l2, f2⟩
        subst ee
        have hz2 : (enumL 0 (rowL n d b))[j]? = some z := hz
        have hj : j < n := by
          have := (List.getElem?_eq_some_iff.mp hz2).1
          rw [enum_len] at this
          simpa [rowL] using this
        have ez : z = .tup [.int j, .int (d b j)] := by
          rw [enum_get] at hz2
          unfold rowL at hz2
          rw [List.getElem?_map, List.getElem?_range hj] at hz2
          have := (Option.some.inj hz2).symm
          rw [this]
          simp
        subst ez
        rw [Nat.zero_add] at S2 ⊢
        have r2 := S2.row i hi_
        have m2 : mix d (inc d a b x) i j i j = d i j := by simp [mix]
        repeat infer_instance
        refine ⟨rfl, ?_⟩
        repeat infer_instance
        refine v_sub_sq (sq_ref r2) (at_range hj) ?_
        rw [m2]
        repeat infer_instance
        have keep : ∀ e : Mat, (∀ i' j', i' < n → j' < n → i' ≠ i → mix d (inc d a b x) i j i' j' = e i' j') → True := fun _ _ => trivial
        have nx : ∀ i' j', i' < n → j' < n → i' ≠ i → mix d (inc d a b x) i j i' j' = mix d (inc d a b x) i (j + 1) i' j' := fun i' j' _ _ hne => by simp [mix, hne]
        refine dec2 (fun c2 => ?_) (fun c2 => ?_)
        · repeat infer_instance
          have hlen : (rowL n (mix d (inc d a b x) i j) i).length = n := by simp [rowL]
          refine v_set1 (ys := rowL n (mix d (inc d a b x) i (j + 1)) i) r2 (k := j) ?_ ?_ ?_
          · rw [hlen]
            unfold L2.ixN
            rw [if_pos (by omega), if_pos (by omega)]
            simp
          · rw [rowL_set hj]
            refine rowL_congr fun j' hj' => ?_
            by_cases c : j' = j
            · subst c
              simp only [mix, inc]
              simp
              omega
            · have : ∀ q, (j' < j + 1) ↔ (j' < j ∨ j' = j) := fun q => by omega
              simp only [mix]
              by_cases c3 : j' < j
              · simp [c, c3, Nat.lt_succ_of_lt c3]
              · have c4 : ¬ j' < j + 1 := by omega
                simp [c, c3, c4]
          · rintro h3 eh3 r3
            repeat infer_instance
            refine ⟨⟨_, _, rfl⟩, by rw [eh3]; exact S2.setRow hi_ nx, by rw [eh3, List.length_set, l2], fun k hk => ?_⟩
            rw [eh3, List.getElem?_set_ne (by omega)]
            exact f2 k hk
        · repeat infer_instance
          refine ⟨⟨_, _, rfl⟩, S2.congr fun i' j' hi' hj' => ?_, l2, f2⟩
          by_cases c : i' = i
          · subst c
            simp only [mix, inc]
            by_cases c3 : j' < j
            · simp [c3, Nat.lt_succ_of_lt c3]
            · by_cases c4 : j' = j
              · subst c4
                simp
                omega
              · have c5 : ¬ j' < j + 1 := by omega
                simp [c3, c5]
          · exact nx i' j' hi' hj' c
      · rintro env h2 ⟨⟨e7', e8', ee⟩, S2, l2, f2⟩
        subst ee
        have el : 0 + (enumL 0 (rowL n d b), still (LV.lst (rowL n d b)) (rowL n d b)).fst.length = n := by
          show 0 + (enumL 0 (rowL n d b)).length = n
          rw [enum_len]
          simp [rowL]
        rw [el] at S2
        repeat infer_instance
        refine ⟨⟨_, _, _, _, rfl⟩, S2.congr fun i' j' hi' hj' => ?_, l2, f2⟩
        simp only [mix]
        by_cases c : i' < i
        · simp [c, Nat.lt_succ_of_lt c]
        · by_cases c4 : i' = i
          · subst c4
            simp [hj']
          · have : ¬ i' < i + 1 := by omega
            simp [c, c4, this]
    · repeat infer_instance
      refine ⟨⟨_, _, _, _, rfl⟩, S1.congr fun i' j' hi' hj' => ?_, l1, f1⟩
      simp only [mix]
      by_cases c : i' < i
      · simp [c, Nat.lt_succ_of_lt c]
      · by_cases c4 : i' = i
        · subst c4
          simp
          exact (inc_row hc ha hb i' hi_ (by omega) j' hj').symm
        · have : ¬ i' < i + 1 := by omega
          simp [c, this]
          try omega
  · rintro env h1 ⟨⟨e5, e6, e7, e8, ee⟩, S1, l1, f1⟩
    subst ee
    have el : 0 + (List.map (fun i => LV.ref (s + 2 + i)) (List.range n), still (LV.ref (s + 2 + n)) (List.map (fun i => LV.ref (s + 2 + i)) (List.range n))).fst.length = n := by simp
    rw [el] at S1
    repeat infer_instance
    refine ⟨rfl, S1.congr fun i' j' hi' hj' => by simp [mix, hi'], l1, f1⟩
theorem add_spec (S : Sys s n lo hi bs d h) (hc : Closed n d) {a b : Nat} {x : Int} (ha : a < n) (hb : b < n) (hz : bs.length < line) {args : List LV} {kws : List (String × LV)} (hbd : bindF f_System_add args kws = some [.ref s, .int a, .int b, .int x]) :
    wp (callF P (m + 2) "System.add" args kws) h fun v h' => v = .bl (decide (0 ≤ d b a + x)) ∧ (0 ≤ d b a + x → Sys s n lo hi (bs ++ [.tup [.int a, .int b, .int x]]) (inc d a b x) h') ∧ (¬ 0 ≤ d b a + x → h' = h) ∧ h'.length = h.length ∧ ∀ k, k < s ∨ s + 2 + n < k → h'[k]? = h[k]? := by
  refine callF_w rfl hbd ?_
  show wp (exSs P (callF P (m + 1)) b_System_add [some (.ref s), some (.int a), some (.int b), some (.int x)]) h _
  unfold b_System_add
  have e1 := S.ins
  have e2 := S.bnd
  repeat infer_instance
  refine wp_mono (can_spec S ha hb) fun v h0 ⟨ev, eh⟩ => ?_
  subst ev
  subst eh
  repeat infer_instance
  refine imp2 (fun c1 => ?_) (fun c1 => ?_)
  · have c2 : ¬ 0 ≤ d b a + x := by simpa using c1
    repeat infer_instance
    exact ⟨by rw [decide_eq_false c2], fun z => absurd z c2, fun _ => rfl, rfl, fun _ _ => rfl⟩
  · have c2 : 0 ≤ d b a + x := by simpa using c1
    repeat infer_instance
    refine v_chkA (ls_ref e2) ?_
    repeat infer_instance
    refine v_app e2 hz fun h1 eh1 r1 => ?_
    have S1 : Sys s n lo hi (bs ++ [.tup [.int a, .int b, .int x]]) d h1 := by
      subst eh1
      refine ⟨?_, r1, ?_, fun i hi => ?_⟩
      · rw [List.getElem?_set_ne (by omega)]; exact S.ins
      · rw [List.getElem?_set_ne (by omega)]; exact S.out
      · rw [List.getElem?_set_ne (by omega)]; exact S.row i hi
    have l1 : h1.length = h0.length := by rw [eh1, List.length_set]
    have f1 : ∀ k, k < s ∨ s + 2 + n < k → h1[k]? = h0[k]? := fun k hk => by rw [eh1, List.getElem?_set_ne (by omega)]
    have e3 := S1.ins
    have e4 := S1.out
    have e5 := S1.row a ha
    repeat infer_instance
    refine v_sub_sq (sq_ref e4) (at_range ha) ?_
    repeat infer_instance
    refine v_sub_sq (sq_ref e5) (at_range hb) ?_
    repeat infer_instance
    refine dec2 (fun c3 => ?_) (fun c3 => ?_)
    · repeat infer_instance
      refine wp_mono (tight_spec S1 hc ha hb) fun v h2 ⟨ev, S2, l2, f2⟩ => ?_
      subst ev
      repeat infer_instance
      exact ⟨by rw [decide_eq_true c2], fun _ => S2, fun z => absurd c2 z, l2.trans l1, fun k hk => (f2 k hk).trans (f1 k hk)⟩
    · repeat infer_instance
      exact ⟨by rw [decide_eq_true c2], fun _ => S1.congr fun i j hi hj => (inc_same hc ha hb (by omega) i j hi hj).symm, fun z => absurd c2 z, l1, f1⟩
/-- the gaps of no bound -/
def fg (lo hi : Int) : Mat := fun i j => if i = j then 0 else if i = 0 then -lo else if j = 0 then hi else hi - lo
theorem fg_cl {n : Nat} {lo hi : Int} (h : lo ≤ hi) : Closed n (fg lo hi) where
  dg := fun i _ => by simp [fg]
  tr := fun i j k _ _ _ => by
    unfold fg
    by_cases c1 : i = j <;> by_cases c2 : i = k <;> by_cases c3 : k = j <;> by_cases c4 : i = 0 <;> by_cases c5 : j = 0 <;> by_cases c6 : k = 0 <;> simp only [c1, c2, c3, c4, c5, c6, if_true, if_false] <;> (try subst_vars) <;> (try simp_all) <;> omega
theorem free_spec {fs : List (String × LV)} (e1 : h[s]? = some (.ins "System" fs)) (e2 : fs.lookup "low" = some (.int lo)) (e3 : fs.lookup "high" = some (.int hi)) (e4 : (fs.lookup "free_gap").isNone = true) {i j : Nat} :
    wp (callF P (m + 1) "System.free_gap" [.ref s, .int i, .int j] []) h fun v h' => v = .int (fg lo hi i j) ∧ h' = h := by
  refine callF_w rfl (vs := [.ref s, .int i, .int j]) rfl ?_
  show wp (exSs P (callF P m) b_System_free_gap [some (.ref s), some (.int i), some (.int j)]) h _
  unfold b_System_free_gap
  have g1 : ∀ {Q : LV → Hh → Prop}, Q (.int lo) h → wp (getA P (.ref s) "low") h Q := fun q => v_getA e1 rfl e2 q
  have g2 : ∀ {Q : LV → Hh → Prop}, Q (.int hi) h → wp (getA P (.ref s) "high") h Q := fun q => v_getA e1 rfl e3 q
  repeat infer_instance
  refine dec2 (fun c1 => ?_) (fun c1 => ?_)
  · repeat infer_instance
    exact ⟨by have : i = j := by omega
              simp [fg, this], rfl⟩
  · repeat infer_instance
    refine dec2 (fun c2 => ?_) (fun c2 => ?_)
    · repeat infer_instance
      refine g1 ?_
      repeat infer_instance
      exact ⟨by have h1 : i ≠ j := by omega
                have h2 : i = 0 := by omega
                subst h2
                simp [fg, h1], rfl⟩
    · repeat infer_instance
      refine dec2 (fun c3 => ?_) (fun c3 => ?_)
      · repeat infer_instance
        refine g2 ?_
        repeat infer_instance
        exact ⟨by have h1 : i ≠ j := by omega
                  have h2 : i ≠ 0 := by omega
                  have h3 : j = 0 := by omega
                  subst h3
                  simp [fg, h2], rfl⟩
      · repeat infer_instance
        refine g2 ?_
        repeat infer_instance
        refine g1 ?_
        repeat infer_instance
        exact ⟨by have h1 : i ≠ j := by omega
                  have h2 : i ≠ 0 := by omega
                  have h3 : j ≠ 0 := by omega
                  simp [fg, h1, h2, h3], rfl⟩
def rowsL (n : Nat) (d : Mat) (i : Nat) : List LO := (List.range i).map fun k => LO.lst (rowL n d k)
theorem init_spec {q : Nat} (hn : n = q + 1) (hs : n ≤ 1000) : wp (callF P (m + 2) "System.__init__" [.ref h.length, .int q, .int lo, .int hi] []) (h ++ [.ins "System" []]) fun v h' => v = .non ∧ Sys h.length n lo hi [] (fg lo hi) h' ∧ h'.length = h.length + 3 + n ∧ ∀ k, k < h.length → h'[k]? = h[k]? := by
  refine callF_w rfl (vs := [.ref h.length, .int q, .int lo, .int hi]) rfl ?_
  show wp (exSs P (callF P (m + 1)) b_System_init [some (.ref h.length), some (.int q), some (.int lo), some (.int hi), none, none]) _ _
  unfold b_System_init
  have e0 : (h ++ [LO.ins "System" []])[h.length]? = some (.ins "System" []) := List.getElem?_concat_length
  repeat infer_instance
  rename_i h1 a1 b1 h2 a2 b2 h3 a3 b3
  have e3 : h3 = h ++ [.ins "System" [("size", .int n), ("low", .int lo), ("high", .int hi)]] := by
    subst a3 a2 a1
    rw [hn]
    simp [putF, List.set_append]
  clear a3 b3 a2 b2 a1 b1
  subst e3
  have l3 : (h ++ [LO.ins "System" [("size", .int n), ("low", .int lo), ("high", .int hi)]]).length = h.length + 1 := by simp
  rw [l3]
  have e4 : ((h ++ [LO.ins "System" [("size", .int n), ("low", .int lo), ("high", .int hi)]]) ++ [LO.lst []])[h.length]? = some (.ins "System" [("size", .int n), ("low", .int lo), ("high", .int hi)]) := by
    rw [List.append_assoc, List.getElem?_append_right (Nat.le_refl _)]
    simp
  refine v_setA (fs2 := [("size", .int n), ("low", .int lo), ("high", .int hi), ("own_bounds", .ref (h.length + 1))]) e4 rfl (by show 3 < 1000; decide) (by simp [putF]) fun B eB rB => ?_
  have lB : B.length = h.length + 2 := by rw [eB]; simp
  have bB : B[h.length + 1]? = some (.lst []) := by
    rw [eB, List.getElem?_set_ne (by omega), List.getElem?_append_right (by simp)]
    simp
  have fB : ∀ k, k < h.length → B[k]? = h[k]? := fun k hk => by
    rw [eB, List.getElem?_set_ne (by omega), List.getElem?_append_left (by simp; omega), List.getElem?_append_left hk]
  clear eB e4
  repeat infer_instance
  have rok : rangeOk 0 (n : Int) = true := by simp [rangeOk]; omega
  have lr : (rangeL 0 (n : Int)).length = n := by simp [rangeL]
  refine ⟨rok, ?_⟩
  refine comp_inv (fun i acc h' => h' = B ++ rowsL n (fg lo hi) i ∧ acc = (List.range i).map fun k => LV.ref (h.length + 2 + k)) _ 0 [] B ⟨by simp [rowsL], rfl⟩ (fun _ _ _ _ => rfl) ?_ ?_
  · rintro i y acc h' hy ⟨eh, ea⟩
    subst eh
    subst ea
    rw [Nat.zero_add]
    have hy2 : (rangeL 0 (n : Int))[i]? = some y := hy
    have hi_ : i < n := by rw [← lr]; exact (List.getElem?_eq_some_iff.mp hy2).1
    have ey : y = .int i := by
      unfold rangeL at hy2
      rw [List.getElem?_map, List.getElem?_range (by simpa using hi_)] at hy2
      have := (Option.some.inj hy2).symm
      rw [this]
      simp
    subst ey
    have r1 : (B ++ rowsL n (fg lo hi) i)[h.length]? = some (.ins "System" [("size", .int n), ("low", .int lo), ("high", .int hi), ("own_bounds", .ref (h.length + 1))]) := by
      rw [List.getElem?_append_left (by omega)]
      exact rB
    repeat infer_instance
    refine dec_t rfl ?_
    repeat infer_instance
    refine ⟨rok, ?_⟩
    refine comp_inv (fun j acc h' => h' = B ++ rowsL n (fg lo hi) i ∧ acc = (List.range j).map fun k => LV.int (fg lo hi i k)) _ 0 [] _ ⟨rfl, rfl⟩ (fun _ _ _ _ => rfl) ?_ ?_
    · rintro j y acc h' hy' ⟨eh, ea⟩
      subst eh
      subst ea
      rw [Nat.zero_add]
      have hy2' : (rangeL 0 (n : Int))[j]? = some y := hy'
      have hj : j < n := by rw [← lr]; exact (List.getElem?_eq_some_iff.mp hy2').1
      have ey : y = .int j := by
        unfold rangeL at hy2'
        rw [List.getElem?_map, List.getElem?_range (by simpa using hj)] at hy2'
        have := (Option.some.inj hy2').symm
        rw [this]
        simp
      subst ey
      repeat infer_instance
      refine dec_t rfl ?_
      repeat infer_instance
      refine wp_mono (free_spec (lo := lo) (hi := hi) r1 rfl rfl rfl) fun v h' ⟨ev, eh⟩ => ?_
      subst ev
      subst eh
      refine ⟨by simp [line]; omega, rfl, ?_⟩
      rw [List.range_succ, List.map_append]
      rfl
    · rintro acc h' ⟨eh, ea⟩
      subst eh
      subst ea
      have el : 0 + (rangeL 0 (n : Int), fun (_ : Hh) => true).fst.length = n := by
        show 0 + (rangeL 0 (n : Int)).length = n
        omega
      rw [el]
      refine v_mkM.mpr ⟨by simp [line]; omega, ?_⟩
      refine ⟨by simp [line]; omega, ?_, ?_⟩
      · have er : rowsL n (fg lo hi) (i + 1) = rowsL n (fg lo hi) i ++ [LO.lst (rowL n (fg lo hi) i)] := by
          unfold rowsL
          rw [List.range_succ, List.map_append, List.map_singleton]
        rw [er, List.append_assoc, rowL]
      · have le : (B ++ rowsL n (fg lo hi) i).length = h.length + 2 + i := by
          rw [List.length_append, lB]
          simp [rowsL]
        rw [le, List.range_succ, List.map_append, List.map_singleton]
  · rintro acc h' ⟨eh, ea⟩
    subst eh
    subst ea
    have el : 0 + (rangeL 0 (n : Int), fun (_ : Hh) => true).fst.length = n := by
      show 0 + (rangeL 0 (n : Int)).length = n
      omega
    rw [el]
    have le : (B ++ rowsL n (fg lo hi) n).length = h.length + 2 + n := by
      rw [List.length_append, lB]
      simp [rowsL]
    refine v_mkM.mpr ⟨by simp [line]; omega, ?_⟩
    rw [le]
    repeat infer_instance
    have e5 : ((B ++ rowsL n (fg lo hi) n) ++ [LO.lst ((List.range n).map fun k => LV.ref (h.length + 2 + k))])[h.length]? = some (.ins "System" [("size", .int n), ("low", .int lo), ("high", .int hi), ("own_bounds", .ref (h.length + 1))]) := by
      rw [List.append_assoc, List.getElem?_append_left (by omega)]
      exact rB
    refine v_setA (fs2 := [("size", .int n), ("low", .int lo), ("high", .int hi), ("own_bounds", .ref (h.length + 1)), ("far", .ref (h.length + 2 + n))]) e5 rfl (by show 4 < 1000; decide) (by simp [putF]) fun D eD rD => ?_
    repeat infer_instance
    refine ⟨rfl, ⟨rD, ?_, ?_, fun i hi_ => ?_⟩, ?_, fun k hk => ?_⟩
    · rw [eD, List.getElem?_set_ne (by omega), List.append_assoc, List.getElem?_append_left (by omega)]
      exact bB
    · rw [eD, List.getElem?_set_ne (by omega), List.getElem?_append_right (by omega), le]
      simp
    · rw [eD, List.getElem?_set_ne (by omega), List.getElem?_append_left (by omega), List.getElem?_append_right (by omega), lB, show h.length + 2 + i - (h.length + 2) = i by omega]
      unfold rowsL
      rw [List.getElem?_map, List.getElem?_range hi_]
      rfl
    · rw [eD, List.length_set, List.length_append, le, List.length_singleton]
      omega
    · rw [eD, List.getElem?_set_ne (by omega), List.append_assoc, List.getElem?_append_left (by omega)]
      exact fB k hk
end
end Lk75

set_option Elab.async false
set_option linter.all false
set_option maxRecDepth 100000
set_option maxHeartbeats 4000000
namespace Lk75
open Mn Mx
section
variable {m : Nat} {h : Hh} {s n : Nat} {lo hi : Int} {bs : List LV} {d : Mat}
local macro_rules | `(tactic| infer_instance) => `(tactic| first
  | (with_reducible refine w_loc.mpr ?_); refine wpO_some.mpr ?_
  | (with_reducible (first | refine w_cst.mpr ?_ | refine ws_cons.mpr ?_ | refine ws_nil.mpr ?_ | refine w_sub.mpr ?_ | refine w_bin.mpr ?_ | refine w_cmp.mpr ?_ | refine w_bcall.mpr ?_ | refine w_call.mpr ?_ | refine w_and.mpr ?_ | refine w_or.mpr ?_ | refine w_not.mpr ?_ | refine w_ite.mpr ?_ | refine w_chain.mpr ?_ | refine w_tup.mpr ?_ | refine w_list.mpr ?_ | refine w_comp.mpr ?_ | refine w_frz.mpr ?_ | refine w_slice.mpr ?_ | refine w_attr.mpr ?_ | refine w_meth.mpr ?_ | refine w_bmeth.mpr ?_ | refine w_bm0.mpr ?_ | refine w_dict1.mpr ?_ | refine w_rev.mpr ?_ | refine w_ins.mpr ?_ | refine w_lrng.mpr ?_ | refine w_isI.mpr ?_ | refine v_isN.mpr ?_ | refine v_isnN.mpr ?_ | refine v_isB.mpr ?_ | refine v_isnB.mpr ?_ | refine w_neg.mpr ?_ | refine w_repr.mpr ?_ | refine xs_cons.mpr ?_ | refine xs_nil.mpr ?_ | refine x_asg.mpr ?_ | refine x_if.mpr ?_ | refine x_ret.mpr ?_ | refine x_expr.mpr ?_ | refine x_for.mpr ?_ | refine x_while.mpr ?_ | refine x_pass.mpr ?_ | refine x_retN.mpr ?_ | refine x_brk.mpr ?_ | refine x_cont.mpr ?_ | refine wpF_nx.mpr ?_ | refine wpF_rt.mpr ?_ | refine wpF_bk.mpr ?_ | refine wpF_ct.mpr ?_ | refine end_rt.mpr ?_ | refine end_nx.mpr ?_ | refine wpB_bl.mpr ?_ | refine wpT_tup.mpr ?_ | refine wt_nm.mpr ?_ | refine wt_tup.mpr ?_ | refine wt_sub.mpr ?_ | refine wt_attr.mpr ?_ | refine wts_cons.mpr ?_ | refine wts_nil.mpr ?_ | refine wi_seq.mpr ?_ | refine wi_enum.mpr ?_ | refine wi_zip.mpr ?_ | refine v_lstM ls_lst ?_ | refine v_min.mpr ?_ | refine v_max.mpr ?_ | refine wi_range1.mpr ?_ | refine wi_range2.mpr ?_ | refine wpI_int.mpr ?_ | refine wc_nil.mpr ?_ | refine wc_one.mpr ?_ | refine v_add.mpr ?_ | refine v_sub.mpr ?_ | refine v_lt.mpr ?_ | refine v_le.mpr ?_ | refine v_gt.mpr ?_ | refine v_ge.mpr ?_ | refine v_int.mpr ?_ | refine v_neg.mpr ?_ | refine v_augadd.mpr ?_ | refine v_augsub.mpr ?_ | refine v_eqInt.mpr ?_ | refine v_neInt.mpr ?_ | refine v_inStr.mpr ?_ | refine v_chkJ.mpr ?_ | refine part_nil.mpr ?_ | refine part_int.mpr ?_ | refine wpL_nx.mpr ?_ | refine wpL_ct.mpr ?_ | refine wpL_bk.mpr ?_ | refine wpL_rt.mpr ?_ | refine v_slScr.mpr ?_ | refine v_slTup.mpr ?_ | refine v_slLst.mpr ?_ | refine v_walkS.mpr ?_ | refine v_list sq_lst ?_ | refine v_list sq_tup ?_ | refine v_tuple sq_lst ?_ | refine v_tuple sq_tup ?_ | refine v_walk sq_lst ?_ | refine v_walk sq_tup ?_))
  | (with_reducible refine w_glo.mpr ?_); refine wpO_some.mpr ?_
  | (with_reducible refine x_aug.mpr ?_); refine wpO_some.mpr ?_
  | (with_reducible apply v_sub_sq (sq_ref (by assumption))); · rfl
  | (with_reducible apply v_sub_sq sq_tup); · rfl
  | (with_reducible apply v_set1 (by assumption)); · rfl
    · rfl
    intro _ _ _
  | (with_reducible refine v_mod.mpr ⟨?_, ?_⟩); · (first | decide | omega)
  | (with_reducible refine v_fdiv.mpr ⟨⟨?_, ?_⟩, ?_⟩); · (first | decide | omega)
    · (first | decide | assumption | (unfold BIG; omega))
  | (with_reducible refine v_mul.mpr ⟨⟨small_of ?_ ?_, small_of ?_ ?_⟩, ?_⟩); · (first | decide | omega)
    · (first | decide | omega)
    · (first | decide | omega)
    · (first | decide | omega)
  | (with_reducible refine v_pow.mpr ⟨⟨?_, ?_, ?_⟩, ?_⟩); · decide
    · decide
    · decide
  | (with_reducible refine v_len (sq_lst) ?_)
  | (with_reducible refine v_len (sq_ref (by assumption)) ?_)
  | (with_reducible refine v_mkF.mpr ⟨?_, ?_⟩); · (simp [line] <;> done)
  | (with_reducible refine v_mkM.mpr ⟨?_, ?_⟩); · (simp [line] <;> done)
  | (with_reducible refine v_mkT.mpr ⟨?_, ?_⟩); · (simp [line] <;> done)
  | (with_reducible apply v_getA (by assumption)); · rfl
    · rfl
  | (with_reducible apply v_methM (by assumption)); · rfl
    · rfl
    · rfl
  | (with_reducible apply v_setA (by assumption)); · rfl
    · (show _ < 1000; first | decide | (simp [putF]; done))
    · rfl
    intro _ _ _
  | (with_reducible refine w_lenO.mpr ?_))
/-- a matrix in cells: rows at r, r + 1, .., the list of them at o -/
structure Cells (r o n : Nat) (d : Mat) (h : Hh) : Prop where
  ne : ∀ i, i < n → r + i ≠ o
  out : h[o]? = some (.lst ((List.range n).map fun i => .ref (r + i)))
  row : ∀ i, i < n → h[r + i]? = some (.lst (rowL n d i))
theorem Cells.congr {r o : Nat} {d e : Mat} (S : Cells r o n d h) (he : ∀ i j, i < n → j < n → d i j = e i j) : Cells r o n e h :=
  ⟨S.ne, S.out, fun i hi => by rw [S.row i hi, rowL_congr fun j hj => he i j hi hj]⟩
theorem Cells.setRow {r o : Nat} {d e : Mat} (S : Cells r o n d h) {k : Nat} (hk : k < n) (he : ∀ i j, i < n → j < n → i ≠ k → d i j = e i j) : Cells r o n e (h.set (r + k) (.lst (rowL n e k))) where
  ne := S.ne
  out := by rw [List.getElem?_set_ne (S.ne k hk)]; exact S.out
  row := fun i hi => by
    by_cases c : i = k
    · subst c
      exact List.getElem?_set_self (List.getElem?_eq_some_iff.mp (S.row i hi)).1
    · rw [List.getElem?_set_ne (by omega), S.row i hi, rowL_congr fun j hj => he i j hi hj c]
theorem via_k {n : Nat} {d : Mat} {k : Nat} (h0 : d k k = 0) (j : Nat) : via d k k j = d k j := by
  unfold via
  omega
def mat (n : Nat) (d : Mat) : LV := .lst ((List.range n).map fun i => .lst (rowL n d i))
theorem mat_congr {n : Nat} {d e : Mat} (h : ∀ i j, i < n → j < n → d i j = e i j) : mat n d = mat n e := by
  unfold mat
  congr 1
  exact List.map_congr_left fun i hi => by rw [rowL_congr fun j hj => h i j (List.mem_range.mp hi) hj]
theorem frz_rows {r n k : Nat} {d : Mat} : ∀ (l : List Nat) (h : Hh), (∀ i ∈ l, h[r + i]? = some (.lst (rowL n d i))) → l.Nodup → wp (mapM' (frzV (k + 2)) (l.map fun i => LV.ref (r + i))) h fun ys h' => ys = l.map (fun i => LV.lst (rowL n d i)) ∧ h'.length = h.length ∧ ∀ q, (∀ i ∈ l, q ≠ r + i) → h'[q]? = h[q]?
  | [], h, _, _ => ⟨rfl, rfl, fun _ _ => rfl⟩
  | i :: l, h, hr, nd => by
    show wp (frzV (k + 2) (.ref (r + i)) >>= fun y => mapM' (frzV (k + 2)) (l.map fun i => LV.ref (r + i)) >>= fun ys => pure (y :: ys)) h _
    rw [wp_bind]
    refine frz_ref (hr i (List.mem_cons_self ..)) ?_
    refine wp_mono (frz_ints _ fun v hv => ?_) fun ys h' ⟨ey, eh⟩ => ?_
    · unfold rowL at hv
      obtain ⟨j, _, e⟩ := List.mem_map.mp hv
      exact ⟨_, e.symm⟩
    · subst ey
      subst eh
      rw [wp_bind]
      have nd' := List.nodup_cons.mp nd
      refine wp_mono (frz_rows (n := n) (d := d) l _ (fun j hj => ?_) nd'.2) fun ys h' ⟨ey, el, ef⟩ => ?_
      · have : j ≠ i := fun e => nd'.1 (e ▸ hj)
        rw [List.getElem?_set_ne (by omega)]
        exact hr j (List.mem_cons_of_mem _ hj)
      · subst ey
        refine ⟨rfl, by rw [el, List.length_set], fun q hq => ?_⟩
        rw [ef q fun j hj => hq j (List.mem_cons_of_mem _ hj), List.getElem?_set_ne (fun e => hq i (List.mem_cons_self ..) e.symm)]
theorem frz_cells {r o : Nat} {d : Mat} (S : Cells r o n d h) : wp (frzV DEEP (.ref o)) h fun v h' => v = mat n d ∧ h'.length = h.length ∧ ∀ k, (k < r ∨ r + n ≤ k) → k ≠ o → h'[k]? = h[k]? := by
  refine frz_ref S.out ?_
  refine wp_mono (frz_rows (n := n) (k := 17) (d := d) (List.range n) _ (fun i hi => ?_) List.nodup_range) fun ys h' ⟨ey, el, ef⟩ => ?_
  · have hi' := List.mem_range.mp hi
    rw [List.getElem?_set_ne (fun e => S.ne i hi' e.symm)]
    exact S.row i hi'
  · subst ey
    refine ⟨rfl, by rw [el, List.length_set], fun k hk hne => ?_⟩
    rw [ef k fun i hi => ?_, List.getElem?_set_ne (Ne.symm hne)]
    have hi' := List.mem_range.mp hi
    omega
theorem rng_item {n i : Nat} {y : LV} (hy : (rangeL 0 (n : Int))[i]? = some y) : i < n ∧ y = .int i := by
  have lr : (rangeL 0 (n : Int)).length = n := by simp [rangeL]
  have hi_ : i < n := by rw [← lr]; exact (List.getElem?_eq_some_iff.mp hy).1
  refine ⟨hi_, ?_⟩
  unfold rangeL at hy
  rw [List.getElem?_map, List.getElem?_range (by simpa using hi_)] at hy
  have := (Option.some.inj hy).symm
  rw [this]
  simp
theorem rng_len {n : Nat} : (rangeL 0 (n : Int)).length = n := by simp [rangeL]
theorem rng_ok {n : Nat} (hn : n ≤ 1000) : rangeOk 0 (n : Int) = true := by simp [rangeOk]; omega
theorem cells_new {d : Mat} : Cells h.length (h.length + n) n d ((h ++ rowsL n d n) ++ [.lst ((List.range n).map fun k => LV.ref (h.length + k))]) where
  ne := fun i hi => by omega
  out := by
    have le : (h ++ rowsL n d n).length = h.length + n := by simp [rowsL]
    rw [← le]
    exact List.getElem?_concat_length
  row := fun i hi => by
    have le : (h ++ rowsL n d n).length = h.length + n := by simp [rowsL]
    rw [List.getElem?_append_left (by omega), List.getElem?_append_right (by omega), Nat.add_sub_cancel_left]
    unfold rowsL
    rw [List.getElem?_map, List.getElem?_range hi]
    rfl
theorem rowsL_succ {d : Mat} {i : Nat} : h ++ rowsL n d i ++ [LO.lst (rowL n d i)] = h ++ rowsL n d (i + 1) := by
  unfold rowsL
  rw [List.range_succ, List.map_append, List.append_assoc]
  rfl
theorem rng1_item {n i : Nat} {y : LV} (hy : (rangeL 1 (n : Int))[i]? = some y) : i + 1 < n ∧ y = .int ((i + 1 : Nat) : Int) := by
  have lr : (rangeL 1 (n : Int)).length = n - 1 := by simp [rangeL]
  have hi_ : i < n - 1 := by rw [← lr]; exact (List.getElem?_eq_some_iff.mp hy).1
  refine ⟨by omega, ?_⟩
  unfold rangeL at hy
  rw [List.getElem?_map, List.getElem?_range (by omega)] at hy
  have := (Option.some.inj hy).symm
  rw [this]
  show LV.int (1 + (i : Int)) = _
  rw [show (1 : Int) + (i : Int) = ((i + 1 : Nat) : Int) by omega]
theorem ixN_nat {n k : Nat} (h : k < n) : L2.ixN n (k : Int) = some k := by
  unfold L2.ixN
  rw [if_pos (by omega), if_pos (by omega)]
  simp
theorem rowL_len {n : Nat} {d : Mat} {i : Nat} : (rowL n d i).length = n := by simp [rowL]
def fgD (lo hi : Int) : Mat := fun i j => if i = j then 0 else hi - lo
def fgP (lo hi : Int) (k : Nat) : Mat := fun i j => if (i = 0 ∧ j < k + 1) ∨ (j = 0 ∧ i < k + 1) then fg lo hi i j else fgD lo hi i j
end
end Lk75

set_option Elab.async false
set_option linter.all false
set_option maxRecDepth 100000
set_option maxHeartbeats 4000000
namespace Lk75
open Mn Mx
section
variable {m : Nat} {h : Hh} {s n : Nat} {lo hi : Int} {bs : List LV} {d : Mat}
local macro_rules | `(tactic| infer_instance) => `(tactic| first
  | (with_reducible refine w_loc.mpr ?_); refine wpO_some.mpr ?_
  | (with_reducible (first | refine w_cst.mpr ?_ | refine ws_cons.mpr ?_ | refine ws_nil.mpr ?_ | refine w_sub.mpr ?_ | refine w_bin.mpr ?_ | refine w_cmp.mpr ?_ | refine w_bcall.mpr ?_ | refine w_call.mpr ?_ | refine w_and.mpr ?_ | refine w_or.mpr ?_ | refine w_not.mpr ?_ | refine w_ite.mpr ?_ | refine w_chain.mpr ?_ | refine w_tup.mpr ?_ | refine w_list.mpr ?_ | refine w_comp.mpr ?_ | refine w_frz.mpr ?_ | refine w_slice.mpr ?_ | refine w_attr.mpr ?_ | refine w_meth.mpr ?_ | refine w_bmeth.mpr ?_ | refine w_bm0.mpr ?_ | refine w_dict1.mpr ?_ | refine w_rev.mpr ?_ | refine w_ins.mpr ?_ | refine w_lrng.mpr ?_ | refine w_isI.mpr ?_ | refine v_isN.mpr ?_ | refine v_isnN.mpr ?_ | refine v_isB.mpr ?_ | refine v_isnB.mpr ?_ | refine w_neg.mpr ?_ | refine w_repr.mpr ?_ | refine xs_cons.mpr ?_ | refine xs_nil.mpr ?_ | refine x_asg.mpr ?_ | refine x_if.mpr ?_ | refine x_ret.mpr ?_ | refine x_expr.mpr ?_ | refine x_for.mpr ?_ | refine x_while.mpr ?_ | refine x_pass.mpr ?_ | refine x_retN.mpr ?_ | refine x_brk.mpr ?_ | refine x_cont.mpr ?_ | refine wpF_nx.mpr ?_ | refine wpF_rt.mpr ?_ | refine wpF_bk.mpr ?_ | refine wpF_ct.mpr ?_ | refine end_rt.mpr ?_ | refine end_nx.mpr ?_ | refine wpB_bl.mpr ?_ | refine wpT_tup.mpr ?_ | refine wt_nm.mpr ?_ | refine wt_tup.mpr ?_ | refine wt_sub.mpr ?_ | refine wt_attr.mpr ?_ | refine wts_cons.mpr ?_ | refine wts_nil.mpr ?_ | refine wi_seq.mpr ?_ | refine wi_enum.mpr ?_ | refine wi_zip.mpr ?_ | refine v_lstM ls_lst ?_ | refine v_min.mpr ?_ | refine v_max.mpr ?_ | refine wi_range1.mpr ?_ | refine wi_range2.mpr ?_ | refine wpI_int.mpr ?_ | refine wc_nil.mpr ?_ | refine wc_one.mpr ?_ | refine v_add.mpr ?_ | refine v_sub.mpr ?_ | refine v_lt.mpr ?_ | refine v_le.mpr ?_ | refine v_gt.mpr ?_ | refine v_ge.mpr ?_ | refine v_int.mpr ?_ | refine v_neg.mpr ?_ | refine v_augadd.mpr ?_ | refine v_augsub.mpr ?_ | refine v_eqInt.mpr ?_ | refine v_neInt.mpr ?_ | refine v_inStr.mpr ?_ | refine v_chkJ.mpr ?_ | refine part_nil.mpr ?_ | refine part_int.mpr ?_ | refine wpL_nx.mpr ?_ | refine wpL_ct.mpr ?_ | refine wpL_bk.mpr ?_ | refine wpL_rt.mpr ?_ | refine v_slScr.mpr ?_ | refine v_slTup.mpr ?_ | refine v_slLst.mpr ?_ | refine v_walkS.mpr ?_ | refine v_list sq_lst ?_ | refine v_list sq_tup ?_ | refine v_tuple sq_lst ?_ | refine v_tuple sq_tup ?_ | refine v_walk sq_lst ?_ | refine v_walk sq_tup ?_))
  | (with_reducible refine w_glo.mpr ?_); refine wpO_some.mpr ?_
  | (with_reducible refine x_aug.mpr ?_); refine wpO_some.mpr ?_
  | (with_reducible apply v_sub_sq (sq_ref (by assumption))); · rfl
  | (with_reducible apply v_sub_sq sq_tup); · rfl
  | (with_reducible apply v_set1 (by assumption)); · rfl
    · rfl
    intro _ _ _
  | (with_reducible refine v_mod.mpr ⟨?_, ?_⟩); · (first | decide | omega)
  | (with_reducible refine v_fdiv.mpr ⟨⟨?_, ?_⟩, ?_⟩); · (first | decide | omega)
    · (first | decide | assumption | (unfold BIG; omega))
  | (with_reducible refine v_mul.mpr ⟨⟨small_of ?_ ?_, small_of ?_ ?_⟩, ?_⟩); · (first | decide | omega)
    · (first | decide | omega)
    · (first | decide | omega)
    · (first | decide | omega)
  | (with_reducible refine v_pow.mpr ⟨⟨?_, ?_, ?_⟩, ?_⟩); · decide
    · decide
    · decide
  | (with_reducible refine v_len (sq_lst) ?_)
  | (with_reducible refine v_len (sq_ref (by assumption)) ?_)
  | (with_reducible refine v_mkF.mpr ⟨?_, ?_⟩); · (simp [line] <;> done)
  | (with_reducible refine v_mkM.mpr ⟨?_, ?_⟩); · (simp [line] <;> done)
  | (with_reducible refine v_mkT.mpr ⟨?_, ?_⟩); · (simp [line] <;> done)
  | (with_reducible apply v_getA (by assumption)); · rfl
    · rfl
  | (with_reducible apply v_methM (by assumption)); · rfl
    · rfl
    · rfl
  | (with_reducible apply v_setA (by assumption)); · rfl
    · (show _ < 1000; first | decide | (simp [putF]; done))
    · rfl
    intro _ _ _
  | (with_reducible refine w_lenO.mpr ?_))
end
end Lk75

set_option Elab.async false
set_option linter.all false
set_option maxRecDepth 100000
set_option maxHeartbeats 4000000
namespace Lk75
open Mn Mx
theorem hD : P.fns.lookup "_law_draw" = some Lc.f_law_draw := rfl
theorem hS : P.fns.lookup "_law_same" = some Lc.f_law_same := rfl
theorem hO : P.fns.lookup "_law_source" = some Lc.f_law_source := rfl
section
variable {m r : Nat} {k : Int} {h h' : Hh} {s n : Nat} {lo hi : Int} {bs : List LV} {d : Mat}
theorem rng_frame (R : Rng r k h) (e : h'[r]? = h[r]?) : Rng r k h' := by
  obtain ⟨cells, i, a, s, c, e1, h1, h2, h3, h4, h5⟩ := R
  exact ⟨cells, i, a, s, c, e.trans e1, h1, h2, h3, h4, h5⟩
theorem rng_lt (R : Rng r k h) : r < h.length := by
  obtain ⟨cells, i, a, s, c, e1, h1, h2, h3, h4, h5⟩ := R
  exact (List.getElem?_eq_some_iff.mp e1).1
theorem Sys.frame (S : Sys s n lo hi bs d h) (e : ∀ k, s ≤ k → k ≤ s + 2 + n → h'[k]? = h[k]?) : Sys s n lo hi bs d h' :=
  ⟨(e s (by omega) (by omega)).trans S.ins, (e (s + 1) (by omega) (by omega)).trans S.bnd, (e (s + 2 + n) (by omega) (by omega)).trans S.out, fun i hi => (e (s + 2 + i) (by omega) (by omega)).trans (S.row i hi)⟩
theorem Sys.lt (S : Sys s n lo hi bs d h) : s + 2 + n < h.length := (List.getElem?_eq_some_iff.mp S.out).1
theorem Sys.setR (S : Sys s n lo hi bs d h) {o : LO} (hr : r < s) : Sys s n lo hi bs d (h.set r o) := S.frame fun k h1 h2 => List.getElem?_set_ne (by omega)
/-- a bound as a value -/
def bnd (a b : Nat) (x : Int) : LV := .tup [.int a, .int b, .int x]
local macro_rules | `(tactic| infer_instance) => `(tactic| first
  | (with_reducible refine w_loc.mpr ?_); refine wpO_some.mpr ?_
  | (with_reducible (first | refine w_cst.mpr ?_ | refine ws_cons.mpr ?_ | refine ws_nil.mpr ?_ | refine w_sub.mpr ?_ | refine w_bin.mpr ?_ | refine w_cmp.mpr ?_ | refine w_bcall.mpr ?_ | refine w_call.mpr ?_ | refine w_and.mpr ?_ | refine w_or.mpr ?_ | refine w_not.mpr ?_ | refine w_ite.mpr ?_ | refine w_chain.mpr ?_ | refine w_tup.mpr ?_ | refine w_list.mpr ?_ | refine w_comp.mpr ?_ | refine w_frz.mpr ?_ | refine w_slice.mpr ?_ | refine w_attr.mpr ?_ | refine w_meth.mpr ?_ | refine w_bmeth.mpr ?_ | refine w_bm0.mpr ?_ | refine w_dict1.mpr ?_ | refine w_rev.mpr ?_ | refine w_ins.mpr ?_ | refine w_lrng.mpr ?_ | refine w_isI.mpr ?_ | refine v_isN.mpr ?_ | refine v_isnN.mpr ?_ | refine v_isB.mpr ?_ | refine v_isnB.mpr ?_ | refine w_neg.mpr ?_ | refine w_repr.mpr ?_ | refine xs_cons.mpr ?_ | refine xs_nil.mpr ?_ | refine x_asg.mpr ?_ | refine x_if.mpr ?_ | refine x_ret.mpr ?_ | refine x_expr.mpr ?_ | refine x_for.mpr ?_ | refine x_while.mpr ?_ | refine x_pass.mpr ?_ | refine x_retN.mpr ?_ | refine x_brk.mpr ?_ | refine x_cont.mpr ?_ | refine wpF_nx.mpr ?_ | refine wpF_rt.mpr ?_ | refine wpF_bk.mpr ?_ | refine wpF_ct.mpr ?_ | refine end_rt.mpr ?_ | refine end_nx.mpr ?_ | refine wpB_bl.mpr ?_ | refine wpT_tup.mpr ?_ | refine wt_nm.mpr ?_ | refine wt_tup.mpr ?_ | refine wt_sub.mpr ?_ | refine wt_attr.mpr ?_ | refine wts_cons.mpr ?_ | refine wts_nil.mpr ?_ | refine wi_seq.mpr ?_ | refine wi_enum.mpr ?_ | refine wi_zip.mpr ?_ | refine v_lstM ls_lst ?_ | refine v_min.mpr ?_ | refine v_max.mpr ?_ | refine wi_range1.mpr ?_ | refine wi_range2.mpr ?_ | refine wpI_int.mpr ?_ | refine wc_nil.mpr ?_ | refine wc_one.mpr ?_ | refine v_add.mpr ?_ | refine v_sub.mpr ?_ | refine v_lt.mpr ?_ | refine v_le.mpr ?_ | refine v_gt.mpr ?_ | refine v_ge.mpr ?_ | refine v_int.mpr ?_ | refine v_neg.mpr ?_ | refine v_augadd.mpr ?_ | refine v_augsub.mpr ?_ | refine v_eqInt.mpr ?_ | refine v_neInt.mpr ?_ | refine v_inStr.mpr ?_ | refine v_chkJ.mpr ?_ | refine part_nil.mpr ?_ | refine part_int.mpr ?_ | refine wpL_nx.mpr ?_ | refine wpL_ct.mpr ?_ | refine wpL_bk.mpr ?_ | refine wpL_rt.mpr ?_ | refine v_slScr.mpr ?_ | refine v_slTup.mpr ?_ | refine v_slLst.mpr ?_ | refine v_walkS.mpr ?_ | refine v_list sq_lst ?_ | refine v_list sq_tup ?_ | refine v_tuple sq_lst ?_ | refine v_tuple sq_tup ?_ | refine v_walk sq_lst ?_ | refine v_walk sq_tup ?_))
  | (with_reducible refine w_glo.mpr ?_); refine wpO_some.mpr ?_
  | (with_reducible refine x_aug.mpr ?_); refine wpO_some.mpr ?_
  | (with_reducible apply v_sub_sq (sq_ref (by assumption))); · rfl
  | (with_reducible apply v_sub_sq sq_tup); · rfl
  | (with_reducible apply v_set1 (by assumption)); · rfl
    · rfl
    intro _ _ _
  | (with_reducible refine v_mod.mpr ⟨?_, ?_⟩); · (first | decide | omega)
  | (with_reducible refine v_fdiv.mpr ⟨⟨?_, ?_⟩, ?_⟩); · (first | decide | omega)
    · (first | decide | assumption | (unfold BIG; omega))
  | (with_reducible refine v_mul.mpr ⟨⟨small_of ?_ ?_, small_of ?_ ?_⟩, ?_⟩); · (first | decide | omega)
    · (first | decide | omega)
    · (first | decide | omega)
    · (first | decide | omega)
  | (with_reducible refine v_pow.mpr ⟨⟨?_, ?_, ?_⟩, ?_⟩); · decide
    · decide
    · decide
  | (with_reducible refine v_len (sq_lst) ?_)
  | (with_reducible refine v_len (sq_ref (by assumption)) ?_)
  | (with_reducible refine v_mkF.mpr ⟨?_, ?_⟩); · (simp [line] <;> done)
  | (with_reducible refine v_mkM.mpr ⟨?_, ?_⟩); · (simp [line] <;> done)
  | (with_reducible refine v_mkT.mpr ⟨?_, ?_⟩); · (simp [line] <;> done)
  | (with_reducible apply v_getA (by assumption)); · rfl
    · rfl
  | (with_reducible apply v_methM (by assumption)); · rfl
    · rfl
    · rfl
  | (with_reducible apply v_setA (by assumption)); · rfl
    · (show _ < 1000; first | decide | (simp [putF]; done))
    · rfl
    intro _ _ _
  | (with_reducible refine w_lenO.mpr ?_))
/-- the gaps stay within the first ones -/
structure Bd (n : Nat) (lo hi : Int) (d : Mat) : Prop where
  cl : Closed n d
  le : ∀ i j, i < n → j < n → d i j ≤ fg lo hi i j
theorem Bd.start (h : lo ≤ hi) : Bd n lo hi (fg lo hi) := ⟨fg_cl h, fun _ _ _ _ => Int.le_refl _⟩
theorem Bd.step (B : Bd n lo hi d) {a b : Nat} {x : Int} (ha : a < n) (hb : b < n) (hx : 0 ≤ d b a + x) : Bd n lo hi (inc d a b x) :=
  ⟨(inc_cl B.cl ha hb hx).cl, fun i j h1 h2 => by
    have := B.le i j h1 h2
    unfold inc
    omega⟩
theorem Bd.up (B : Bd n lo hi d) (h1 : lo ≤ hi) (h2 : -10 ≤ lo) (h3 : hi ≤ 2000000000000000) {i j : Nat} (hi_ : i < n) (hj : j < n) : d i j ≤ 2000000000000010 := by
  have := B.le i j hi_ hj
  unfold fg at this
  split at this
  · omega
  · split at this
    · omega
    · split at this <;> omega
theorem Bd.dn (B : Bd n lo hi d) (h1 : lo ≤ hi) (h2 : -10 ≤ lo) (h3 : hi ≤ 2000000000000000) {i j : Nat} (hi_ : i < n) (hj : j < n) : -2000000000000010 ≤ d i j := by
  have := B.up h1 h2 h3 hj hi_
  have t := B.cl.tr i i j hi_ hi_ hj
  have g := B.cl.dg i hi_
  omega
theorem mat_sm (hd : ∀ i j, i < n → j < n → -2000000000000010 ≤ d i j ∧ d i j ≤ 2000000000000010) : (mat n d).sm = true := by
  refine sms_map fun i hi => sms_map fun j hj => decide_eq_true ?_
  have := hd i j (List.mem_range.mp hi) (List.mem_range.mp hj)
  have : (10 : Nat) ^ 30 = 1000000000000000000000000000000 := by decide
  omega
theorem row_wt {i : Nat} : (LV.lst (rowL n d i)).wt ≤ n * 101 := by
  have := wts_le (B := 100) (l := rowL n d i) fun a ha => by
    obtain ⟨j, _, e⟩ := List.mem_map.mp ha
    rw [← e]
    exact Nat.le_refl _
  rwa [rowL_len] at this
theorem mat_wt : (mat n d).wt ≤ n * (n * 101 + 1) := by
  have := wts_le (B := n * 101) (l := (List.range n).map fun i => LV.lst (rowL n d i)) fun a ha => by
    obtain ⟨j, _, e⟩ := List.mem_map.mp ha
    rw [← e]
    exact row_wt
  rwa [List.length_map, List.length_range] at this
theorem mat_dp : (mat n d).dp ≤ 2 := by
  have := dps_le (B := 1) (l := (List.range n).map fun i => LV.lst (rowL n d i)) fun a ha => by
    obtain ⟨j, _, e⟩ := List.mem_map.mp ha
    rw [← e]
    have := dps_le (B := 0) (l := rowL n d j) fun a ha => by
      obtain ⟨k, _, e⟩ := List.mem_map.mp ha
      rw [← e]
      exact Nat.le_refl _
    show LV.dps (rowL n d j) + 1 ≤ 1
    omega
  show LV.dps _ + 1 ≤ 2
  omega
/-- a list of bounds -/
def BsOk (n : Nat) (bs : List LV) : Prop := ∀ v ∈ bs, ∃ (a b : Nat) (x : Int), v = bnd a b x ∧ a < n ∧ b < n ∧ -1000000000000000 ≤ x ∧ x ≤ 1000000000000000
theorem BsOk.nil : BsOk n [] := fun _ h => by cases h
theorem BsOk.app (B : BsOk n bs) {a b : Nat} {x : Int} (ha : a < n) (hb : b < n) (h1 : -1000000000000000 ≤ x) (h2 : x ≤ 1000000000000000) : BsOk n (bs ++ [bnd a b x]) := fun v hv => by
  rcases List.mem_append.mp hv with z | z
  · exact B v z
  · exact ⟨a, b, x, by simpa using z, ha, hb, h1, h2⟩
theorem bs_sm (B : BsOk n bs) (hn : n ≤ 1000) : LV.sms bs = true ∧ LV.wts bs ≤ bs.length * 305 ∧ LV.dps bs ≤ 1 := by
  have e : (10 : Nat) ^ 30 = 1000000000000000000000000000000 := by decide
  refine ⟨sms_all fun v hv => ?_, wts_le (B := 304) fun v hv => ?_, dps_le fun v hv => ?_⟩
  all_goals obtain ⟨a, b, x, ev, ha, hb, h1, h2⟩ := B v hv
  all_goals subst ev
  · unfold bnd
    simp only [LV.sm, LV.sms, Bool.and_true, Bool.and_eq_true, decide_eq_true_eq]
    omega
  · unfold bnd
    simp [LV.wt, LV.wts]
  · unfold bnd
    simp [LV.dp, LV.dps]
end
end Lk75

set_option Elab.async false
set_option linter.all false
set_option maxRecDepth 100000
set_option maxHeartbeats 4000000
namespace Lk75
open Mn Mx
/-- a comprehension over range(n) that changes nothing -/
theorem comp_rng {n : Nat} (hn : n ≤ 1000) {P : Prog} {cf : CF} {env : Env} {own : List Nat} {elt : E} {q : Nat} {h : Hh} {K : List LV → Hh → Prop} (g : Nat → LV) (step : ∀ j, j < n → wp (evE P cf elt ((wipeE env own).set q (some (.int j)))) h fun v h' => v = g j ∧ h' = h) (done : K ((List.range n).map g) h) :
    wp (noX (compL (rangeL 0 (n : Int), fun (_ : Hh) => true).snd (bindT P cf (.nm q)) (fun e => evConds P cf .nil e) (fun e => evE P cf elt e) (wipeE env own) (rangeL 0 (n : Int), fun (_ : Hh) => true).fst [])) h K := by
  refine comp_inv (fun i acc h' => h' = h ∧ acc = (List.range i).map g) _ 0 [] h ⟨rfl, rfl⟩ (fun _ _ _ _ => rfl) ?_ ?_
  · rintro j y acc h1 hy ⟨eh, ea⟩
    subst eh
    subst ea
    rw [Nat.zero_add]
    obtain ⟨hj, ey⟩ := rng_item hy
    subst ey
    refine wt_nm.mpr (wc_nil.mpr (dec_t rfl ?_))
    refine wp_mono (step j hj) fun v h2 ⟨ev, eh⟩ => ?_
    subst ev
    subst eh
    refine ⟨by simp [line]; omega, rfl, ?_⟩
    rw [List.range_succ, List.map_append]
    rfl
  · rintro acc h1 ⟨eh, ea⟩
    subst eh
    subst ea
    have el : 0 + (rangeL 0 (n : Int), fun (_ : Hh) => true).fst.length = n := by
      show 0 + (rangeL 0 (n : Int)).length = n
      rw [rng_len]
      omega
    rw [el]
    exact done
theorem lst_ok {n : Nat} {g : Nat → Int} (hg : ∀ j, j < n → -100000000000000000 ≤ g j ∧ g j ≤ 100000000000000000) (hn : n ≤ 1000) : (LV.lst ((List.range n).map fun j => .int (g j))).sm = true ∧ (LV.lst ((List.range n).map fun j => .int (g j))).wt ≤ 500000 ∧ (LV.lst ((List.range n).map fun j => .int (g j))).dp < 20 := by
  refine ⟨sms_map fun j hj => decide_eq_true ?_, ?_, ?_⟩
  · have := hg j (List.mem_range.mp hj)
    have : (10 : Nat) ^ 30 = 1000000000000000000000000000000 := by decide
    omega
  · have := wts_le (B := 100) (l := (List.range n).map fun j => LV.int (g j)) fun a ha => by
      obtain ⟨j, _, e⟩ := List.mem_map.mp ha
      rw [← e]
      exact Nat.le_refl _
    rw [List.length_map, List.length_range] at this
    show LV.wts _ ≤ _
    omega
  · have := dps_le (B := 0) (l := (List.range n).map fun j => LV.int (g j)) fun a ha => by
      obtain ⟨j, _, e⟩ := List.mem_map.mp ha
      rw [← e]
      exact Nat.le_refl _
    show LV.dps _ + 1 < 20
    omega
/-- the bounds that were kept: the gaps keep them -/
structure Kept (n : Nat) (d : Mat) (bs : List LV) : Prop where
  ok : BsOk n bs
  le : ∀ (a b : Nat) (x : Int), bnd a b x ∈ bs → d a b ≤ x
theorem Kept.nil {n : Nat} {d : Mat} : Kept n d [] := ⟨BsOk.nil, fun _ _ _ h => by cases h⟩
theorem bnd_inj {a b a' b' : Nat} {x x' : Int} (e : bnd a b x = bnd a' b' x') : a = a' ∧ b = b' ∧ x = x' := by
  unfold bnd at e
  injection e with e
  injection e with e1 e
  injection e with e2 e
  injection e with e3 e
  injection e1 with e1
  injection e2 with e2
  injection e3 with e3
  exact ⟨by omega, by omega, e3⟩
theorem Kept.app {n : Nat} {d : Mat} {bs : List LV} (K : Kept n d bs) (hc : Closed n d) {a b : Nat} {x : Int} (ha : a < n) (hb : b < n) (h1 : -1000000000000000 ≤ x) (h2 : x ≤ 1000000000000000) : Kept n (inc d a b x) (bs ++ [bnd a b x]) where
  ok := K.ok.app ha hb h1 h2
  le := fun a' b' x' hm => by
    unfold inc
    rcases List.mem_append.mp hm with z | z
    · have := K.le _ _ _ z
      omega
    · obtain ⟨e1, e2, e3⟩ := bnd_inj (List.mem_singleton.mp z)
      subst e1 e2 e3
      have g1 := hc.dg a' ha
      have g2 := hc.dg b' hb
      omega
/-- the bounds of the ends -/
def ext (lo hi : Int) (k : Nat) : List LV := (List.range k).flatMap fun i => [bnd (i + 1) 0 hi, bnd 0 (i + 1) (0 - lo)]
theorem ext_succ {lo hi : Int} {k : Nat} : ext lo hi (k + 1) = ext lo hi k ++ [bnd (k + 1) 0 hi, bnd 0 (k + 1) (0 - lo)] := by
  unfold ext
  rw [List.range_succ, List.flatMap_append]
  rfl
theorem ext_len {lo hi : Int} : ∀ k, (ext lo hi k).length = 2 * k
  | 0 => rfl
  | k + 1 => by
    rw [ext_succ, List.length_append, ext_len k]
    show 2 * k + 2 = _
    omega
theorem ext_mem {lo hi : Int} {k : Nat} {v : LV} : v ∈ ext lo hi k ↔ ∃ i, i < k ∧ (v = bnd (i + 1) 0 hi ∨ v = bnd 0 (i + 1) (0 - lo)) := by
  unfold ext
  simp [List.mem_flatMap]
/-- the known bounds as edges -/
def ED (n : Nat) (lo hi : Int) (bs : List LV) : Edg := fun a b x => bnd a b x ∈ bs ++ ext lo hi (n - 1)
theorem pth_start {n : Nat} {lo hi : Int} : Pth n (ED n lo hi []) (fg lo hi) := fun i j hi_ hj => by
  have to0 : ∀ {i}, i < n → i ≠ 0 → ED n lo hi [] i 0 hi := fun {i} h1 h2 => List.mem_append.mpr (.inr (ext_mem.mpr ⟨i - 1, by omega, .inl (by rw [show i - 1 + 1 = i by omega])⟩))
  have of0 : ∀ {j}, j < n → j ≠ 0 → ED n lo hi [] 0 j (0 - lo) := fun {j} h1 h2 => List.mem_append.mpr (.inr (ext_mem.mpr ⟨j - 1, by omega, .inr (by rw [show j - 1 + 1 = j by omega])⟩))
  unfold fg
  by_cases c1 : i = j
  · rw [if_pos c1, c1]
    exact .nil j
  · rw [if_neg c1]
    by_cases c2 : i = 0
    · rw [if_pos c2]
      subst c2
      have := Path.one (n := n) (of0 hj (Ne.symm c1)) hj
      rwa [show (0 : Int) - lo = -lo by omega] at this
    · rw [if_neg c2]
      by_cases c3 : j = 0
      · rw [if_pos c3]
        subst c3
        exact Path.one (to0 hi_ c2) hj
      · rw [if_neg c3]
        have := Path.cons (n := n) (to0 hi_ c2) (by omega) (Path.one (of0 hj c3) hj)
        rwa [show hi + (0 - lo) = hi - lo by omega] at this
theorem pth_app {n : Nat} {lo hi : Int} {bs : List LV} {d : Mat} {a b : Nat} {x : Int} (p : Pth n (ED n lo hi bs) d) (ha : a < n) (hb : b < n) : Pth n (ED n lo hi (bs ++ [bnd a b x])) (inc d a b x) := by
  refine Pth.inc (p.mono fun i j w h => ?_) ha hb ?_
  · rcases List.mem_append.mp h with z | z
    · exact List.mem_append.mpr (.inl (List.mem_append.mpr (.inl z)))
    · exact List.mem_append.mpr (.inr z)
  · exact List.mem_append.mpr (.inl (List.mem_append.mpr (.inr (List.mem_singleton.mpr rfl))))
section
variable {m r : Nat} {k : Int} {h h' : Hh} {s n : Nat} {lo hi : Int} {bs : List LV} {d : Mat}
local macro_rules | `(tactic| infer_instance) => `(tactic| first
  | (with_reducible refine w_loc.mpr ?_); refine wpO_some.mpr ?_
  | (with_reducible (first | refine w_cst.mpr ?_ | refine ws_cons.mpr ?_ | refine ws_nil.mpr ?_ | refine w_sub.mpr ?_ | refine w_bin.mpr ?_ | refine w_cmp.mpr ?_ | refine w_bcall.mpr ?_ | refine w_call.mpr ?_ | refine w_and.mpr ?_ | refine w_or.mpr ?_ | refine w_not.mpr ?_ | refine w_ite.mpr ?_ | refine w_chain.mpr ?_ | refine w_tup.mpr ?_ | refine w_list.mpr ?_ | refine w_comp.mpr ?_ | refine w_frz.mpr ?_ | refine w_slice.mpr ?_ | refine w_attr.mpr ?_ | refine w_meth.mpr ?_ | refine w_bmeth.mpr ?_ | refine w_bm0.mpr ?_ | refine w_dict1.mpr ?_ | refine w_rev.mpr ?_ | refine w_ins.mpr ?_ | refine w_lrng.mpr ?_ | refine w_isI.mpr ?_ | refine v_isN.mpr ?_ | refine v_isnN.mpr ?_ | refine v_isB.mpr ?_ | refine v_isnB.mpr ?_ | refine w_neg.mpr ?_ | refine w_repr.mpr ?_ | refine xs_cons.mpr ?_ | refine xs_nil.mpr ?_ | refine x_asg.mpr ?_ | refine x_if.mpr ?_ | refine x_ret.mpr ?_ | refine x_expr.mpr ?_ | refine x_for.mpr ?_ | refine x_while.mpr ?_ | refine x_pass.mpr ?_ | refine x_retN.mpr ?_ | refine x_brk.mpr ?_ | refine x_cont.mpr ?_ | refine wpF_nx.mpr ?_ | refine wpF_rt.mpr ?_ | refine wpF_bk.mpr ?_ | refine wpF_ct.mpr ?_ | refine end_rt.mpr ?_ | refine end_nx.mpr ?_ | refine wpB_bl.mpr ?_ | refine wpT_tup.mpr ?_ | refine wt_nm.mpr ?_ | refine wt_tup.mpr ?_ | refine wt_sub.mpr ?_ | refine wt_attr.mpr ?_ | refine wts_cons.mpr ?_ | refine wts_nil.mpr ?_ | refine wi_seq.mpr ?_ | refine wi_enum.mpr ?_ | refine wi_zip.mpr ?_ | refine v_lstM ls_lst ?_ | refine v_min.mpr ?_ | refine v_max.mpr ?_ | refine wi_range1.mpr ?_ | refine wi_range2.mpr ?_ | refine wpI_int.mpr ?_ | refine wc_nil.mpr ?_ | refine wc_one.mpr ?_ | refine v_add.mpr ?_ | refine v_sub.mpr ?_ | refine v_lt.mpr ?_ | refine v_le.mpr ?_ | refine v_gt.mpr ?_ | refine v_ge.mpr ?_ | refine v_int.mpr ?_ | refine v_neg.mpr ?_ | refine v_augadd.mpr ?_ | refine v_augsub.mpr ?_ | refine v_eqInt.mpr ?_ | refine v_neInt.mpr ?_ | refine v_inStr.mpr ?_ | refine v_chkJ.mpr ?_ | refine part_nil.mpr ?_ | refine part_int.mpr ?_ | refine wpL_nx.mpr ?_ | refine wpL_ct.mpr ?_ | refine wpL_bk.mpr ?_ | refine wpL_rt.mpr ?_ | refine v_slScr.mpr ?_ | refine v_slTup.mpr ?_ | refine v_slLst.mpr ?_ | refine v_walkS.mpr ?_ | refine v_list sq_lst ?_ | refine v_list sq_tup ?_ | refine v_tuple sq_lst ?_ | refine v_tuple sq_tup ?_ | refine v_walk sq_lst ?_ | refine v_walk sq_tup ?_))
  | (with_reducible refine w_glo.mpr ?_); refine wpO_some.mpr ?_
  | (with_reducible refine x_aug.mpr ?_); refine wpO_some.mpr ?_
  | (with_reducible apply v_sub_sq (sq_ref (by assumption))); · rfl
  | (with_reducible apply v_sub_sq sq_tup); · rfl
  | (with_reducible apply v_set1 (by assumption)); · rfl
    · rfl
    intro _ _ _
  | (with_reducible refine v_mod.mpr ⟨?_, ?_⟩); · (first | decide | omega)
  | (with_reducible refine v_fdiv.mpr ⟨⟨?_, ?_⟩, ?_⟩); · (first | decide | omega)
    · (first | decide | assumption | (unfold BIG; omega))
  | (with_reducible refine v_mul.mpr ⟨⟨small_of ?_ ?_, small_of ?_ ?_⟩, ?_⟩); · (first | decide | omega)
    · (first | decide | omega)
    · (first | decide | omega)
    · (first | decide | omega)
  | (with_reducible refine v_pow.mpr ⟨⟨?_, ?_, ?_⟩, ?_⟩); · decide
    · decide
    · decide
  | (with_reducible refine v_len (sq_lst) ?_)
  | (with_reducible refine v_len (sq_ref (by assumption)) ?_)
  | (with_reducible refine v_mkF.mpr ⟨?_, ?_⟩); · (simp [line] <;> done)
  | (with_reducible refine v_mkM.mpr ⟨?_, ?_⟩); · (simp [line] <;> done)
  | (with_reducible refine v_mkT.mpr ⟨?_, ?_⟩); · (simp [line] <;> done)
  | (with_reducible apply v_getA (by assumption)); · rfl
    · rfl
  | (with_reducible apply v_methM (by assumption)); · rfl
    · rfl
    · rfl
  | (with_reducible apply v_setA (by assumption)); · rfl
    · (show _ < 1000; first | decide | (simp [putF]; done))
    · rfl
    intro _ _ _
  | (with_reducible refine w_lenO.mpr ?_))
theorem still_ref {q : Nat} {xs : List LV} (e : h[q]? = some (.lst xs)) : still (.ref q) xs h = true := by
  unfold still
  dsimp only
  rw [e]
  exact LV.sames_refl _
/-- all known bounds are kept by the gaps -/
theorem all_le (B : Bd n lo hi d) (K : Kept n d bs) (h1n : 1 ≤ n) {v : LV} (hv : v ∈ bs ++ ext lo hi (n - 1)) : ∃ (a b : Nat) (x : Int), v = bnd a b x ∧ a < n ∧ b < n ∧ d a b ≤ x := by
  rcases List.mem_append.mp hv with z | z
  · obtain ⟨a, b, x, e, ha, hb, _, _⟩ := K.ok v z
    subst e
    exact ⟨a, b, x, rfl, ha, hb, K.le _ _ _ z⟩
  · obtain ⟨i, hi_, e⟩ := ext_mem.mp z
    rcases e with e | e <;> subst e
    · exact ⟨_, _, _, rfl, by omega, by omega, by have := B.le (i + 1) 0 (by omega) (by omega); simpa [fg] using this⟩
    · exact ⟨_, _, _, rfl, by omega, by omega, by have := B.le 0 (i + 1) (by omega) (by omega); simp [fg] at this; omega⟩
def FarR (h h' : Hh) (v : LV) (l : List LV) : Prop := v = .lst l ∧ h' = h
def farL (n : Nat) (d : Mat) (i : Nat) : List LV := (List.range n).map fun j => LV.int (-d 0 i + d j i)
def nearL (n : Nat) (d : Mat) (i : Nat) : List LV := (List.range n).map fun j => LV.int (d i 0 - d i j)
theorem farthest_spec (S : Sys s n lo hi bs d h) {i : Nat} (hi_ : i < n) (hn : n ≤ 1000) {args : List LV} {kws : List (String × LV)} (hb : bindF f_System_farthest args kws = some [.ref s, .int i]) : wp (callF P (m + 1) "System.farthest" args kws) h fun v h' => FarR h h' v (farL n d i) := by
  refine callF_w rfl hb ?_
  show wp (exSs P (callF P m) b_System_farthest [some (.ref s), some (.int i), none, none]) h _
  unfold b_System_farthest
  have e1 := S.ins
  have e2 := S.out
  have e3 := S.row 0 (by omega)
  repeat infer_instance
  refine v_sub_sq (sq_ref e2) (at_range (i := 0) (by omega)) ?_
  repeat infer_instance
  refine v_sub_sq (sq_ref e3) (at_range hi_) ?_
  repeat infer_instance
  refine v_walk (sq_ref e2) ?_
  refine comp_inv (fun j acc h' => h' = h ∧ acc = (List.range j).map fun k => LV.int (-d 0 i + d k i)) _ 0 [] h ⟨rfl, rfl⟩ (fun _ _ _ z => by rw [z.1]; exact still_ref e2) ?_ ?_
  · rintro j y acc h1 hy ⟨eh, ea⟩
    subst eh
    subst ea
    rw [Nat.zero_add]
    have hj : j < n := by simpa using (List.getElem?_eq_some_iff.mp hy).1
    have ey : y = .ref (s + 2 + j) := by
      have h2 : ((List.range n).map fun i => LV.ref (s + 2 + i))[j]? = some y := hy
      rw [List.getElem?_map, List.getElem?_range hj] at h2
      cases h2
      rfl
    subst ey
    have r1 := S.row j hj
    repeat infer_instance
    refine dec_t rfl ?_
    repeat infer_instance
    refine v_sub_sq (sq_ref r1) (at_range hi_) ?_
    repeat infer_instance
    refine ⟨by simp [line]; omega, rfl, ?_⟩
    rw [List.range_succ, List.map_append]
    rfl
  · rintro acc h1 ⟨eh, ea⟩
    subst eh
    subst ea
    have el : 0 + (List.map (fun i => LV.ref (s + 2 + i)) (List.range n), still (LV.ref (s + 2 + n)) (List.map (fun i => LV.ref (s + 2 + i)) (List.range n))).fst.length = n := by simp
    rw [el]
    first
      | refine v_mkM.mpr ⟨by simp [line]; omega, ?_⟩
        repeat infer_instance
        exact ⟨rfl, rfl⟩
      | refine v_mkF.mpr ⟨by simp [line]; omega, ?_⟩
        repeat infer_instance
        exact ⟨rfl, rfl⟩
theorem nearest_spec (S : Sys s n lo hi bs d h) {i : Nat} (hi_ : i < n) (hn : n ≤ 1000) {args : List LV} {kws : List (String × LV)} (hb : bindF f_System_nearest args kws = some [.ref s, .int i]) : wp (callF P (m + 1) "System.nearest" args kws) h fun v h' => FarR h h' v (nearL n d i) := by
  refine callF_w rfl hb ?_
  show wp (exSs P (callF P m) b_System_nearest [some (.ref s), some (.int i), none, none]) h _
  unfold b_System_nearest
  have e1 := S.ins
  have e2 := S.out
  have e3 := S.row i hi_
  repeat infer_instance
  refine v_sub_sq (sq_ref e2) (at_range hi_) ?_
  repeat infer_instance
  refine v_sub_sq (sq_ref e3) (at_range (i := 0) (by omega)) ?_
  repeat infer_instance
  refine v_sub_sq (sq_ref e2) (at_range hi_) ?_
  refine v_walk (sq_ref e3) ?_
  refine comp_inv (fun j acc h' => h' = h ∧ acc = (List.range j).map fun k => LV.int (d i 0 - d i k)) _ 0 [] h ⟨rfl, rfl⟩ (fun _ _ _ z => by rw [z.1]; exact still_ref e3) ?_ ?_
  · rintro j y acc h1 hy ⟨eh, ea⟩
    subst eh
    subst ea
    rw [Nat.zero_add]
    have hj : j < n := by have := (List.getElem?_eq_some_iff.mp hy).1; simpa [rowL] using this
    have ey : y = .int (d i j) := by
      have h2 : (rowL n d i)[j]? = some y := hy
      unfold rowL at h2
      rw [List.getElem?_map, List.getElem?_range hj] at h2
      cases h2
      rfl
    subst ey
    repeat infer_instance
    refine dec_t rfl ?_
    repeat infer_instance
    refine ⟨by simp [line]; omega, rfl, ?_⟩
    rw [List.range_succ, List.map_append]
    rfl
  · rintro acc h1 ⟨eh, ea⟩
    subst eh
    subst ea
    have el : 0 + (rowL n d i, still (LV.ref (s + 2 + i)) (rowL n d i)).fst.length = n := by simp [rowL]
    rw [el]
    first
      | refine v_mkM.mpr ⟨by simp [line]; omega, ?_⟩
        repeat infer_instance
        exact ⟨rfl, rfl⟩
      | refine v_mkF.mpr ⟨by simp [line]; omega, ?_⟩
        repeat infer_instance
        exact ⟨rfl, rfl⟩
end
end Lk75

set_option Elab.async false
set_option linter.all false
set_option maxRecDepth 100000
set_option maxHeartbeats 4000000
namespace Lk75
open Mn Mx
/-- a while loop by its invariant and a measure -/
theorem while_inv {cond : Env → M LV} {body : Env → M (Fl × Env)} {R : Fl × Env → Hh → Prop} (Iv : Nat → Env → Hh → Prop) (step : ∀ m env h, Iv m env h → wp (cond env) h fun x h1 => wpB x fun c => (c = true → wp (body env) h1 fun r h2 => wpL r (fun e2 => ∃ m', m' < m ∧ Iv m' e2 h2) fun y => R y h2) ∧ (c = false → R (.nx, env) h1)) :
    ∀ (fuel m : Nat) (env : Env) (h : Hh), m < fuel → Iv m env h → wp (whileL cond body fuel env) h R
  | 0, m, env, h, hm, _ => absurd hm (Nat.not_lt_zero _)
  | fuel + 1, m, env, h, hm, I => by
    unfold whileL
    rw [wp_bind]
    refine wp_mono (step m env h I) fun x h1 q => ?_
    rw [wp_bind, wp_toB]
    cases x with
    | bl c =>
      have q' : (c = true → wp (body env) h1 fun r h2 => wpL r (fun e2 => ∃ m', m' < m ∧ Iv m' e2 h2) fun y => R y h2) ∧ (c = false → R (.nx, env) h1) := q
      cases c with
      | true =>
        refine wp_bind.mpr ?_
        refine wp_mono (q'.1 rfl) fun r h2 q2 => ?_
        obtain ⟨f, e2⟩ := r
        cases f with
        | nx =>
          obtain ⟨m', h3, I'⟩ := q2
          exact while_inv Iv step fuel m' e2 h2 (by omega) I'
        | ct =>
          obtain ⟨m', h3, I'⟩ := q2
          exact while_inv Iv step fuel m' e2 h2 (by omega) I'
        | bk => exact q2
        | rt v => exact q2
      | false => exact q'.2 rfl
    | _ => exact q.elim
/-- rows of lists in cells -/
structure CellsG (r o n : Nat) (L : Nat → List LV) (h : Hh) : Prop where
  ne : ∀ i, i < n → r + i ≠ o
  out : h[o]? = some (.lst ((List.range n).map fun i => .ref (r + i)))
  row : ∀ i, i < n → h[r + i]? = some (.lst (L i))
def addL (L : Nat → List LV) (a : Nat) (v : LV) : Nat → List LV := fun i => if i = a then L i ++ [v] else L i
theorem CellsG.add {r o n : Nat} {L : Nat → List LV} {h : Hh} (S : CellsG r o n L h) {a : Nat} {v : LV} (ha : a < n) : CellsG r o n (addL L a v) (h.set (r + a) (.lst (L a ++ [v]))) where
  ne := S.ne
  out := by rw [List.getElem?_set_ne (S.ne a ha)]; exact S.out
  row := fun i hi => by
    unfold addL
    by_cases c : i = a
    · subst c
      rw [if_pos rfl]
      exact List.getElem?_set_self (List.getElem?_eq_some_iff.mp (S.row i hi)).1
    · rw [if_neg c, List.getElem?_set_ne (by omega), S.row i hi]
/-- the edges, by their first index -/
structure EI (n : Nat) (D : LV → Prop) (L : Nat → List LV) (c : Nat) : Prop where
  mem : ∀ i, i < n → ∀ v ∈ L i, D v ∧ ∃ b x, v = bnd i b x ∧ b < n
  all : ∀ a b x, a < n → D (bnd a b x) → bnd a b x ∈ L a
  len : ∀ i, i < n → (L i).length ≤ c
theorem EI.add {n : Nat} {D D' : LV → Prop} {L : Nat → List LV} {c : Nat} (E : EI n D L c) {a b : Nat} {x : Int} (ha : a < n) (hb : b < n) (hD : ∀ v, D' v ↔ D v ∨ v = bnd a b x) : EI n D' (addL L a (bnd a b x)) (c + 1) where
  mem := fun i hi v hv => by
    unfold addL at hv
    by_cases e : i = a
    · rw [if_pos e] at hv
      rcases List.mem_append.mp hv with z | z
      · obtain ⟨h1, h2⟩ := E.mem i hi v z
        exact ⟨(hD v).mpr (.inl h1), h2⟩
      · have : v = bnd a b x := List.mem_singleton.mp z
        subst this
        exact ⟨(hD _).mpr (.inr rfl), b, x, by rw [e], hb⟩
    · rw [if_neg e] at hv
      obtain ⟨h1, h2⟩ := E.mem i hi v hv
      exact ⟨(hD v).mpr (.inl h1), h2⟩
  all := fun a' b' x' ha' h => by
    unfold addL
    rcases (hD _).mp h with z | z
    · have := E.all a' b' x' ha' z
      by_cases e : a' = a
      · rw [if_pos e]; exact List.mem_append.mpr (.inl this)
      · rw [if_neg e]; exact this
    · obtain ⟨e1, e2, e3⟩ := bnd_inj z
      rw [if_pos e1, e1, e2, e3]
      exact List.mem_append.mpr (.inr (List.mem_singleton.mpr rfl))
  len := fun i hi => by
    have := E.len i hi
    unfold addL
    by_cases e : i = a
    · rw [if_pos e, List.length_append]
      show (L i).length + 1 ≤ _
      omega
    · rw [if_neg e]
      omega
/-- a chain of edges with its sum -/
inductive Ch (n : Nat) (D : Edg) (j : Nat) : Nat → Int → List LV → Prop
  | nil : Ch n D j j 0 []
  | cons {i k : Nat} {w s : Int} {l : List LV} : D i k w → i < n → k < n → Ch n D j k s l → Ch n D j i (w + s) (bnd i k w :: l)
section
variable {m : Nat} {h : Hh} {s n : Nat} {lo hi : Int} {bs : List LV} {d : Mat}
local macro_rules | `(tactic| infer_instance) => `(tactic| first
  | (with_reducible refine w_loc.mpr ?_); refine wpO_some.mpr ?_
  | (with_reducible (first | refine w_cst.mpr ?_ | refine ws_cons.mpr ?_ | refine ws_nil.mpr ?_ | refine w_sub.mpr ?_ | refine w_bin.mpr ?_ | refine w_cmp.mpr ?_ | refine w_bcall.mpr ?_ | refine w_call.mpr ?_ | refine w_and.mpr ?_ | refine w_or.mpr ?_ | refine w_not.mpr ?_ | refine w_ite.mpr ?_ | refine w_chain.mpr ?_ | refine w_tup.mpr ?_ | refine w_list.mpr ?_ | refine w_comp.mpr ?_ | refine w_frz.mpr ?_ | refine w_slice.mpr ?_ | refine w_attr.mpr ?_ | refine w_meth.mpr ?_ | refine w_bmeth.mpr ?_ | refine w_bm0.mpr ?_ | refine w_dict1.mpr ?_ | refine w_rev.mpr ?_ | refine w_ins.mpr ?_ | refine w_lrng.mpr ?_ | refine w_isI.mpr ?_ | refine v_isN.mpr ?_ | refine v_isnN.mpr ?_ | refine v_isB.mpr ?_ | refine v_isnB.mpr ?_ | refine w_neg.mpr ?_ | refine w_repr.mpr ?_ | refine xs_cons.mpr ?_ | refine xs_nil.mpr ?_ | refine x_asg.mpr ?_ | refine x_if.mpr ?_ | refine x_ret.mpr ?_ | refine x_expr.mpr ?_ | refine x_for.mpr ?_ | refine x_while.mpr ?_ | refine x_pass.mpr ?_ | refine x_retN.mpr ?_ | refine x_brk.mpr ?_ | refine x_cont.mpr ?_ | refine wpF_nx.mpr ?_ | refine wpF_rt.mpr ?_ | refine wpF_bk.mpr ?_ | refine wpF_ct.mpr ?_ | refine end_rt.mpr ?_ | refine end_nx.mpr ?_ | refine wpB_bl.mpr ?_ | refine wpT_tup.mpr ?_ | refine wt_nm.mpr ?_ | refine wt_tup.mpr ?_ | refine wt_sub.mpr ?_ | refine wt_attr.mpr ?_ | refine wts_cons.mpr ?_ | refine wts_nil.mpr ?_ | refine wi_seq.mpr ?_ | refine wi_enum.mpr ?_ | refine wi_zip.mpr ?_ | refine v_lstM ls_lst ?_ | refine v_min.mpr ?_ | refine v_max.mpr ?_ | refine wi_range1.mpr ?_ | refine wi_range2.mpr ?_ | refine wpI_int.mpr ?_ | refine wc_nil.mpr ?_ | refine wc_one.mpr ?_ | refine v_add.mpr ?_ | refine v_sub.mpr ?_ | refine v_lt.mpr ?_ | refine v_le.mpr ?_ | refine v_gt.mpr ?_ | refine v_ge.mpr ?_ | refine v_int.mpr ?_ | refine v_neg.mpr ?_ | refine v_augadd.mpr ?_ | refine v_augsub.mpr ?_ | refine v_eqInt.mpr ?_ | refine v_neInt.mpr ?_ | refine v_inStr.mpr ?_ | refine v_chkJ.mpr ?_ | refine part_nil.mpr ?_ | refine part_int.mpr ?_ | refine wpL_nx.mpr ?_ | refine wpL_ct.mpr ?_ | refine wpL_bk.mpr ?_ | refine wpL_rt.mpr ?_ | refine v_slScr.mpr ?_ | refine v_slTup.mpr ?_ | refine v_slLst.mpr ?_ | refine v_walkS.mpr ?_ | refine v_list sq_lst ?_ | refine v_list sq_tup ?_ | refine v_tuple sq_lst ?_ | refine v_tuple sq_tup ?_ | refine v_walk sq_lst ?_ | refine v_walk sq_tup ?_))
  | (with_reducible refine w_glo.mpr ?_); refine wpO_some.mpr ?_
  | (with_reducible refine x_aug.mpr ?_); refine wpO_some.mpr ?_
  | (with_reducible apply v_sub_sq (sq_ref (by assumption))); · rfl
  | (with_reducible apply v_sub_sq sq_tup); · rfl
  | (with_reducible apply v_set1 (by assumption)); · rfl
    · rfl
    intro _ _ _
  | (with_reducible refine v_mod.mpr ⟨?_, ?_⟩); · (first | decide | omega)
  | (with_reducible refine v_fdiv.mpr ⟨⟨?_, ?_⟩, ?_⟩); · (first | decide | omega)
    · (first | decide | assumption | (unfold BIG; omega))
  | (with_reducible refine v_mul.mpr ⟨⟨small_of ?_ ?_, small_of ?_ ?_⟩, ?_⟩); · (first | decide | omega)
    · (first | decide | omega)
    · (first | decide | omega)
    · (first | decide | omega)
  | (with_reducible refine v_pow.mpr ⟨⟨?_, ?_, ?_⟩, ?_⟩); · decide
    · decide
    · decide
  | (with_reducible refine v_len (sq_lst) ?_)
  | (with_reducible refine v_len (sq_ref (by assumption)) ?_)
  | (with_reducible refine v_mkF.mpr ⟨?_, ?_⟩); · (simp [line] <;> done)
  | (with_reducible refine v_mkM.mpr ⟨?_, ?_⟩); · (simp [line] <;> done)
  | (with_reducible refine v_mkT.mpr ⟨?_, ?_⟩); · (simp [line] <;> done)
  | (with_reducible apply v_getA (by assumption)); · rfl
    · rfl
  | (with_reducible apply v_methM (by assumption)); · rfl
    · rfl
    · rfl
  | (with_reducible apply v_setA (by assumption)); · rfl
    · (show _ < 1000; first | decide | (simp [putF]; done))
    · rfl
    intro _ _ _
  | (with_reducible refine w_lenO.mpr ?_))
theorem frz_lists {r k : Nat} {L : Nat → List LV} (hL : ∀ i, ∀ v ∈ L i, ∃ a b x, v = bnd a b x) : ∀ (l : List Nat) (h : Hh), (∀ i ∈ l, h[r + i]? = some (.lst (L i))) → l.Nodup → wp (mapM' (frzV (k + 3)) (l.map fun i => LV.ref (r + i))) h fun ys h' => ys = l.map (fun i => LV.lst (L i)) ∧ h'.length = h.length ∧ ∀ q, (∀ i ∈ l, q ≠ r + i) → h'[q]? = h[q]?
  | [], h, _, _ => ⟨rfl, rfl, fun _ _ => rfl⟩
  | i :: l, h, hr, nd => by
    show wp (frzV (k + 3) (.ref (r + i)) >>= fun y => mapM' (frzV (k + 3)) (l.map fun i => LV.ref (r + i)) >>= fun ys => pure (y :: ys)) h _
    rw [wp_bind]
    have flat : ∀ (xs : List LV) (h : Hh), (∀ v ∈ xs, ∃ a b x, v = bnd a b x) → wp (mapM' (frzV (k + 2)) xs) h fun ys h' => ys = xs ∧ h' = h := by
      intro xs
      induction xs with
      | nil => exact fun h _ => ⟨rfl, rfl⟩
      | cons v vs ih =>
        intro h hv
        obtain ⟨a, b, x, e⟩ := hv v (List.mem_cons_self ..)
        subst e
        show wp (frzV (k + 2) (bnd a b x) >>= fun y => mapM' (frzV (k + 2)) vs >>= fun ys => pure (y :: ys)) h _
        rw [wp_bind]
        have e1 : wp (frzV (k + 2) (bnd a b x)) h fun y h' => y = bnd a b x ∧ h' = h := ⟨rfl, rfl⟩
        refine wp_mono e1 fun y h1 ⟨ey, eh⟩ => ?_
        subst ey
        subst eh
        rw [wp_bind]
        refine wp_mono (ih h1 fun v hv' => hv v (List.mem_cons_of_mem _ hv')) fun ys h' ⟨ey, eh⟩ => ?_
        subst ey
        subst eh
        exact ⟨rfl, rfl⟩
    refine frz_ref (hr i (List.mem_cons_self ..)) ?_
    refine wp_mono (flat _ _ (hL i)) fun ys h' ⟨ey, eh⟩ => ?_
    subst ey
    subst eh
    rw [wp_bind]
    have nd' := List.nodup_cons.mp nd
    refine wp_mono (frz_lists hL l _ (fun j hj => ?_) nd'.2) fun ys h' ⟨ey, el, ef⟩ => ?_
    · have : j ≠ i := fun e => nd'.1 (e ▸ hj)
      rw [List.getElem?_set_ne (by omega)]
      exact hr j (List.mem_cons_of_mem _ hj)
    · subst ey
      refine ⟨rfl, by rw [el, List.length_set], fun q hq => ?_⟩
      rw [ef q fun j hj => hq j (List.mem_cons_of_mem _ hj), List.getElem?_set_ne (fun e => hq i (List.mem_cons_self ..) e.symm)]
theorem edges_spec (S : Sys s n lo hi bs d h) (hn : n ≤ 1000) (h1n : 1 ≤ n) (hB : BsOk n bs) (hl : bs.length ≤ 1000) : wp (callF P (m + 1) "System.edges" [.ref s] []) h fun v h' => ∃ L, v = .lst ((List.range n).map fun i => .lst (L i)) ∧ EI n (fun v => v ∈ bs ++ ext lo hi (n - 1)) L 4000 ∧ h.length ≤ h'.length ∧ ∀ k, k < h.length → h'[k]? = h[k]? := by
  refine callF_w rfl (vs := [.ref s]) rfl ?_
  show wp (exSs P (callF P m) b_System_edges [some (.ref s), none, none, none]) h _
  unfold b_System_edges
  have e1 := S.ins
  have e2 := S.bnd
  have hlt := S.lt
  repeat infer_instance
  refine ⟨rng_ok hn, ?_⟩
  refine comp_inv (fun i acc h' => h' = h ++ ((List.range i).map fun _ => LO.lst []) ∧ acc = (List.range i).map fun k => LV.ref (h.length + k)) _ 0 [] h ⟨by simp, rfl⟩ (fun _ _ _ _ => rfl) ?_ ?_
  · rintro i y acc h' hy ⟨eh, ea⟩
    subst eh
    subst ea
    rw [Nat.zero_add]
    obtain ⟨hi_, ey⟩ := rng_item hy
    subst ey
    repeat infer_instance
    refine dec_t rfl ?_
    repeat infer_instance
    refine ⟨by simp [line]; omega, ?_, ?_⟩
    · rw [List.range_succ, List.map_append, List.append_assoc]
      rfl
    · rw [List.range_succ, List.map_append]
      simp
  · rintro acc h' ⟨eh, ea⟩
    subst eh
    subst ea
    have el : 0 + (rangeL 0 (n : Int), fun (_ : Hh) => true).fst.length = n := by
      show 0 + (rangeL 0 (n : Int)).length = n
      rw [rng_len]
      omega
    rw [el]
    refine v_mkM.mpr ⟨by simp [line]; omega, ?_⟩
    have le : (h ++ (List.range n).map fun _ => LO.lst []).length = h.length + n := by simp
    rw [le]
    have C0 : CellsG h.length (h.length + n) n (fun _ => []) ((h ++ (List.range n).map fun _ => LO.lst []) ++ [.lst ((List.range n).map fun k => LV.ref (h.length + k))]) := by
      refine ⟨fun i hi => by omega, ?_, fun i hi => ?_⟩
      · rw [← le]
        exact List.getElem?_concat_length
      · rw [List.getElem?_append_left (by omega), List.getElem?_append_right (by omega), Nat.add_sub_cancel_left, List.getElem?_map, List.getElem?_range hi]
        rfl
    have L0 : ((h ++ (List.range n).map fun _ => LO.lst []) ++ [LO.lst ((List.range n).map fun k => LV.ref (h.length + k))]).length = h.length + n + 1 := by rw [List.length_append, le]; rfl
    have F0 : ∀ k, k < h.length → ((h ++ (List.range n).map fun _ => LO.lst []) ++ [LO.lst ((List.range n).map fun k => LV.ref (h.length + k))])[k]? = h[k]? := fun k hk => by
      rw [List.append_assoc, List.getElem?_append_left hk]
    generalize ((h ++ (List.range n).map fun _ => LO.lst []) ++ [LO.lst ((List.range n).map fun k => LV.ref (h.length + k))]) = h0 at C0 L0 F0 ⊢
    have i0 : h0[s]? = some (.ins "System" [("size", .int n), ("low", .int lo), ("high", .int hi), ("own_bounds", .ref (s + 1)), ("far", .ref (s + 2 + n))]) := (F0 s (by omega)).trans e1
    repeat infer_instance
    refine ⟨by simp [rangeOk]; omega, ?_⟩
    refine for_inv (fun k env h' => (∃ e2, env = [some (.ref s), some (.ref (h.length + n)), e2, none]) ∧ (∃ L, CellsG h.length (h.length + n) n L h' ∧ EI n (fun v => v ∈ ext lo hi k) L (2 * k)) ∧ h'.length = h0.length ∧ ∀ k, k < h.length → h'[k]? = h[k]?) _ 0 _ _ ⟨⟨_, rfl⟩, ⟨_, C0, fun i _ v hv => (nomatch hv), fun a b x _ hv => (by simp [ext] at hv), fun _ _ => Nat.le_refl _⟩, rfl, F0⟩ (fun _ _ _ _ => rfl) ?_ ?_
    · rintro k y env h1 hy ⟨⟨e2', ee⟩, ⟨L, C1, E1⟩, l1, f1⟩
      subst ee
      obtain ⟨hk, ey⟩ := rng1_item hy
      subst ey
      rw [Nat.zero_add] at E1 ⊢
      have i1 := (f1 s (by omega)).trans e1
      have o1 := C1.out
      have r1 := C1.row 0 (by omega)
      have ln1 := E1.len 0 (by omega)
      repeat infer_instance
      refine v_sub_sq (sq_ref o1) (at_range (i := 0) (by omega)) ?_
      repeat infer_instance
      refine v_chkA (ls_ref r1) ?_
      repeat infer_instance
      refine v_app r1 (by show _ < 16777216; omega) fun h2 eh2 _ => ?_
      have C2 := C1.add (a := 0) (v := bnd 0 (k + 1) (0 - lo)) (by omega)
      have z : h2 = h1.set (h.length + 0) (.lst (L 0 ++ [bnd 0 (k + 1) (0 - lo)])) := by
        rw [eh2, show (0 : Int) - lo = -lo by omega]
        rfl
      rw [← z] at C2
      have E2 := E1.add (D' := fun v => v ∈ ext lo hi k ∨ v = bnd 0 (k + 1) (0 - lo)) (a := 0) (b := k + 1) (x := 0 - lo) (by omega) hk fun v => Iff.rfl
      have f2 : ∀ k, k < h.length → h2[k]? = h[k]? := fun q hq => by rw [z, List.getElem?_set_ne (by omega)]; exact f1 q hq
      have l2 : h2.length = h0.length := by rw [z, List.length_set, l1]
      clear eh2 z
      have i2 := (f2 s (by omega)).trans e1
      have o2 := C2.out
      have r2 := C2.row (k + 1) hk
      have ln2 := E2.len (k + 1) hk
      repeat infer_instance
      refine v_sub_sq (sq_ref o2) (at_range hk) ?_
      repeat infer_instance
      refine v_chkA (ls_ref r2) ?_
      repeat infer_instance
      refine v_app r2 (by show _ < 16777216; omega) fun h3 eh3 _ => ?_
      have C3 := C2.add (a := k + 1) (v := bnd (k + 1) 0 hi) hk
      have z : h3 = h2.set (h.length + (k + 1)) (.lst (addL L 0 (bnd 0 (k + 1) (0 - lo)) (k + 1) ++ [bnd (k + 1) 0 hi])) := eh3
      rw [← z] at C3
      have E3 := E2.add (D' := fun v => v ∈ ext lo hi (k + 1)) (a := k + 1) (b := 0) (x := hi) hk (by omega) fun v => by
        rw [ext_succ, List.mem_append]
        simp only [List.mem_cons, List.not_mem_nil, or_false]
        constructor
        · rintro (x | x | x)
          · exact .inl (.inl x)
          · exact .inr x
          · exact .inl (.inr x)
        · rintro ((x | x) | x)
          · exact .inl x
          · exact .inr (.inr x)
          · exact .inr (.inl x)
      repeat infer_instance
      refine ⟨⟨_, rfl⟩, ⟨_, C3, E3⟩, by rw [z, List.length_set, l2], fun q hq => by rw [z, List.getElem?_set_ne (by omega)]; exact f2 q hq⟩
    · rintro env h1 ⟨⟨e2', ee⟩, ⟨L, C1, E1⟩, l1, f1⟩
      subst ee
      have el : 0 + (rangeL 1 (n : Int), fun (_ : Hh) => true).fst.length = n - 1 := by
        show 0 + (rangeL 1 (n : Int)).length = n - 1
        simp [rangeL]
      rw [el] at E1
      have i1 := (f1 s (by omega)).trans e1
      have b1 := (f1 (s + 1) (by omega)).trans e2
      repeat infer_instance
      refine v_walk (sq_ref b1) ?_
      refine for_inv (fun k env h' => (∃ e3, env = [some (.ref s), some (.ref (h.length + n)), e2', e3]) ∧ (∃ L, CellsG h.length (h.length + n) n L h' ∧ EI n (fun v => v ∈ bs.take k ∨ v ∈ ext lo hi (n - 1)) L (2 * (n - 1) + k)) ∧ h'.length = h0.length ∧ ∀ k, k < h.length → h'[k]? = h[k]?) _ 0 _ _ ⟨⟨_, rfl⟩, ⟨L, C1, ⟨fun i hi v hv => by
          obtain ⟨h1, h2⟩ := E1.mem i hi v hv
          exact ⟨.inr h1, h2⟩, fun a b x ha hv => by
          rcases hv with z | z
          · cases z
          · exact E1.all a b x ha z, E1.len⟩⟩, l1, f1⟩ ?_ ?_ ?_
      · rintro k env h' ⟨_, _, _, f'⟩
        exact still_ref ((f' (s + 1) (by omega)).trans e2)
      · rintro k y env h2 hy ⟨⟨e3, ee⟩, ⟨L, C2, E2⟩, l2, f2⟩
        subst ee
        have hy' : bs[k]? = some y := hy
        obtain ⟨hk, ek⟩ := List.getElem?_eq_some_iff.mp hy'
        obtain ⟨a, b, x, ey, ha, hb, _, _⟩ := hB y (ek ▸ List.getElem_mem hk)
        subst ey
        rw [Nat.zero_add] at E2 ⊢
        have o2 := C2.out
        have r2 := C2.row a ha
        have ln2 := E2.len a ha
        unfold bnd
        repeat infer_instance
        refine v_sub_sq (sq_ref o2) (at_range ha) ?_
        repeat infer_instance
        refine v_chkA (ls_ref r2) ?_
        repeat infer_instance
        refine v_app r2 (by show _ < 16777216; omega) fun h3 eh3 _ => ?_
        have C3 := C2.add (a := a) (v := bnd a b x) ha
        have z : h3 = h2.set (h.length + a) (.lst (L a ++ [bnd a b x])) := eh3
        rw [← z] at C3
        have E3 := E2.add (D' := fun v => v ∈ bs.take (k + 1) ∨ v ∈ ext lo hi (n - 1)) (a := a) (b := b) (x := x) ha hb fun v => by
          rw [List.take_succ, hy', List.mem_append]
          simp only [Option.toList_some, List.mem_singleton]
          constructor
          · rintro ((x | x) | x)
            · exact .inl (.inl x)
            · exact .inr x
            · exact .inl (.inr x)
          · rintro ((x | x) | x)
            · exact .inl (.inl x)
            · exact .inr x
            · exact .inl (.inr x)
        repeat infer_instance
        exact ⟨⟨_, rfl⟩, ⟨_, C3, E3⟩, by rw [z, List.length_set, l2], fun q hq => by rw [z, List.getElem?_set_ne (by omega)]; exact f2 q hq⟩
      · rintro env h2 ⟨⟨e3, ee⟩, ⟨L, C2, E2⟩, l2, f2⟩
        subst ee
        have el2 : 0 + (bs, still (LV.ref (s + 1)) bs).fst.length = bs.length := by simp
        rw [el2] at E2
        rw [List.take_length] at E2
        have E3 : EI n (fun v => v ∈ bs ++ ext lo hi (n - 1)) (fun i => if i < n then L i else []) 4000 := by
          refine ⟨fun i hi v hv => ?_, fun a b x ha hv => ?_, fun i hi => ?_⟩
          · rw [if_pos hi] at hv
            obtain ⟨h1, h2⟩ := E2.mem i hi v hv
            exact ⟨List.mem_append.mpr h1, h2⟩
          · rw [if_pos ha]
            exact E2.all a b x ha (List.mem_append.mp hv)
          · have := E2.len i hi
            rw [if_pos hi]
            omega
        have C3 : ∀ i ∈ List.range n, h2[h.length + i]? = some (.lst (if i < n then L i else [])) := fun i hi => by
          rw [if_pos (List.mem_range.mp hi)]
          exact C2.row i (List.mem_range.mp hi)
        repeat infer_instance
        have fz : wp (frzV DEEP (.ref (h.length + n))) h2 fun v h' => v = .lst ((List.range n).map fun i => .lst (if i < n then L i else [])) ∧ h'.length = h2.length ∧ ∀ k, k < h.length → h'[k]? = h2[k]? := by
          refine frz_ref C2.out ?_
          refine wp_mono (frz_lists (k := 16) (L := fun i => if i < n then L i else []) (fun i v hv => ?_) (List.range n) _ (fun i hi => ?_) List.nodup_range) fun ys h' ⟨ey, el, ef⟩ => ?_
          · by_cases c : i < n
            · rw [if_pos c] at hv
              obtain ⟨_, b, x, e, _⟩ := E2.mem i c v hv
              exact ⟨i, b, x, e⟩
            · rw [if_neg c] at hv
              cases hv
          · have hi' := List.mem_range.mp hi
            rw [List.getElem?_set_ne (fun e => C2.ne i hi' e.symm)]
            exact C3 i hi
          · subst ey
            refine ⟨rfl, by rw [el, List.length_set], fun k hk => ?_⟩
            rw [ef k fun i hi => by omega, List.getElem?_set_ne (by omega)]
        refine wp_mono fz fun v h3 ⟨ev, l3, f3⟩ => ?_
        subst ev
        repeat infer_instance
        exact ⟨_, rfl, E3, by omega, fun k hk => (f3 k hk).trans (f2 k hk)⟩
end
end Lk75

set_option Elab.async false
set_option linter.all false
set_option maxRecDepth 100000
set_option maxHeartbeats 4000000
namespace Lk75
open Mn Mx
theorem nodup_le : ∀ (n : Nat) (l : List Nat), l.Nodup → (∀ k ∈ l, k < n) → l.length ≤ n
  | 0, l, _, h => by
    cases l with
    | nil => exact Nat.le_refl _
    | cons a l => exact absurd (h a (List.mem_cons_self ..)) (Nat.not_lt_zero _)
  | n + 1, l, nd, h => by
    have h1 := nodup_le n (l.erase n) (nd.erase n) fun k hk => by
      have := (List.Nodup.mem_erase_iff nd).mp hk
      have := h k this.2
      omega
    by_cases c : n ∈ l
    · have := List.length_erase_of_mem c
      omega
    · rw [List.erase_of_not_mem c] at h1
      omega
/-- the chain that is returned -/
def ChR (h h' : Hh) (v : LV) (l : List LV) : Prop := v = .lst l
/-- the parents' dict -/
def pd_ (line : List Nat) (par : Nat → LV) : List (LV × LV) := line.map fun (k : Nat) => (LV.int (k : Int), par k)
theorem look_line (par : Nat → LV) (g : Nat) : ∀ line : List Nat, lookD (pd_ line par) (.int g) = if g ∈ line then some (par g) else none
  | [] => rfl
  | a :: l => by
    show (if LV.int (a : Int) = LV.int (g : Int) then some (par a) else lookD (pd_ l par) (.int g)) = _
    by_cases c : a = g
    · subst c
      rw [if_pos rfl, if_pos (List.mem_cons_self ..)]
    · have c2 : ¬ LV.int (a : Int) = LV.int (g : Int) := fun e => c (by injection e with e; omega)
      rw [if_neg c2, look_line par g l]
      have c3 : g ∈ a :: l ↔ g ∈ l := by simp [List.mem_cons, Ne.symm c]
      by_cases c4 : g ∈ l
      · rw [if_pos c4, if_pos (c3.mpr c4)]
      · rw [if_neg c4, if_neg (fun z => c4 (c3.mp z))]
def upP (par : Nat → LV) (g : Nat) (v : LV) : Nat → LV := fun k => if k = g then v else par k
theorem put_line {par : Nat → LV} {g : Nat} {line : List Nat} {v : LV} (h : g ∉ line) : putD (pd_ line par) (.int g) v = pd_ (line ++ [g]) (upP par g v) := by
  have e1 : ((pd_ line par).any fun p => decide (p.1 = LV.int (g : Int))) = false := by
    rw [List.any_eq_false]
    intro p hp
    unfold pd_ at hp
    obtain ⟨k, hk, e⟩ := List.mem_map.mp hp
    rw [← e]
    simp only [decide_eq_true_eq]
    intro z
    injection z with z
    exact h (by rw [show g = k by omega]; exact hk)
  unfold putD
  rw [e1]
  show pd_ line par ++ [(.int g, v)] = _
  unfold pd_
  rw [List.map_append]
  congr 1
  · refine List.map_congr_left fun k hk => ?_
    have : k ≠ g := fun e => h (e ▸ hk)
    simp [upP, this]
  · simp [upP]
structure BI (n : Nat) (D : Edg) (d : Mat) (one other : Nat) (line : List Nat) (par : Nat → LV) (at_ : Nat) : Prop where
  nd : line.Nodup
  lt : ∀ k ∈ line, k < n
  hd : line[0]? = some one
  p0 : par one = .non
  pr : ∀ j g, line[j + 1]? = some g → ∃ i p w, i ≤ j ∧ line[i]? = some p ∧ par g = bnd p g w ∧ D p g w ∧ w + d g other = d p other
  ex : ∀ j p, j < at_ → line[j]? = some p → ∀ k w, k < n → D p k w → w + d k other = d p other → k ∈ line
  le : at_ ≤ line.length
theorem BI.grow {n : Nat} {D : Edg} {d : Mat} {one other : Nat} {line : List Nat} {par : Nat → LV} {at_ : Nat} (B : BI n D d one other line par at_) {i p g : Nat} {w : Int} (hg : g ∉ line) (hgn : g < n) (hi : line[i]? = some p) (e : D p g w) (et : w + d g other = d p other) : BI n D d one other (line ++ [g]) (upP par g (bnd p g w)) at_ where
  nd := List.nodup_append.mpr ⟨B.nd, by simp, fun a ha b hb => by
    have : b = g := List.mem_singleton.mp hb
    subst this
    exact fun e => hg (e ▸ ha)⟩
  lt := fun k hk => by
    rcases List.mem_append.mp hk with z | z
    · exact B.lt k z
    · rw [List.mem_singleton.mp z]; exact hgn
  hd := by
    rw [List.getElem?_append_left (List.getElem?_eq_some_iff.mp B.hd).1]
    exact B.hd
  p0 := by
    have : one ≠ g := fun e => hg (e ▸ List.mem_of_getElem? B.hd)
    unfold upP
    rw [if_neg this]
    exact B.p0
  pr := fun j k hj => by
    have hil := (List.getElem?_eq_some_iff.mp hi).1
    by_cases c : j + 1 < line.length
    · rw [List.getElem?_append_left c] at hj
      obtain ⟨i', p', w', h1, h2, h3, h4, h5⟩ := B.pr j k hj
      have : k ≠ g := fun e => hg (e ▸ List.mem_of_getElem? hj)
      refine ⟨i', p', w', h1, by rw [List.getElem?_append_left (by omega)]; exact h2, ?_, h4, h5⟩
      unfold upP
      rw [if_neg this]
      exact h3
    · have hj2 := (List.getElem?_eq_some_iff.mp hj).1
      rw [List.length_append, List.length_singleton] at hj2
      rw [List.getElem?_append_right (by omega), show j + 1 - line.length = 0 by omega] at hj
      have : g = k := by simpa using hj
      subst this
      refine ⟨i, p, w, by omega, by rw [List.getElem?_append_left hil]; exact hi, ?_, e, et⟩
      unfold upP
      rw [if_pos rfl]
  ex := fun j q hj hq k w' hk hD ht => by
    have hl := B.le
    rw [List.getElem?_append_left (by omega)] at hq
    exact List.mem_append.mpr (.inl (B.ex j q hj hq k w' hk hD ht))
  le := by
    have := B.le
    rw [List.length_append]
    omega
section
variable {m : Nat} {h : Hh} {s n : Nat} {lo hi : Int} {bs : List LV} {d : Mat}
local macro_rules | `(tactic| infer_instance) => `(tactic| first
  | (with_reducible refine w_loc.mpr ?_); refine wpO_some.mpr ?_
  | (with_reducible (first | refine w_cst.mpr ?_ | refine ws_cons.mpr ?_ | refine ws_nil.mpr ?_ | refine w_sub.mpr ?_ | refine w_bin.mpr ?_ | refine w_cmp.mpr ?_ | refine w_bcall.mpr ?_ | refine w_call.mpr ?_ | refine w_and.mpr ?_ | refine w_or.mpr ?_ | refine w_not.mpr ?_ | refine w_ite.mpr ?_ | refine w_chain.mpr ?_ | refine w_tup.mpr ?_ | refine w_list.mpr ?_ | refine w_comp.mpr ?_ | refine w_frz.mpr ?_ | refine w_slice.mpr ?_ | refine w_attr.mpr ?_ | refine w_meth.mpr ?_ | refine w_bmeth.mpr ?_ | refine w_bm0.mpr ?_ | refine w_dict1.mpr ?_ | refine w_rev.mpr ?_ | refine w_ins.mpr ?_ | refine w_lrng.mpr ?_ | refine w_isI.mpr ?_ | refine v_isN.mpr ?_ | refine v_isnN.mpr ?_ | refine v_isB.mpr ?_ | refine v_isnB.mpr ?_ | refine w_neg.mpr ?_ | refine w_repr.mpr ?_ | refine xs_cons.mpr ?_ | refine xs_nil.mpr ?_ | refine x_asg.mpr ?_ | refine x_if.mpr ?_ | refine x_ret.mpr ?_ | refine x_expr.mpr ?_ | refine x_for.mpr ?_ | refine x_while.mpr ?_ | refine x_pass.mpr ?_ | refine x_retN.mpr ?_ | refine x_brk.mpr ?_ | refine x_cont.mpr ?_ | refine wpF_nx.mpr ?_ | refine wpF_rt.mpr ?_ | refine wpF_bk.mpr ?_ | refine wpF_ct.mpr ?_ | refine end_rt.mpr ?_ | refine end_nx.mpr ?_ | refine wpB_bl.mpr ?_ | refine wpT_tup.mpr ?_ | refine wt_nm.mpr ?_ | refine wt_tup.mpr ?_ | refine wt_sub.mpr ?_ | refine wt_attr.mpr ?_ | refine wts_cons.mpr ?_ | refine wts_nil.mpr ?_ | refine wi_seq.mpr ?_ | refine wi_enum.mpr ?_ | refine wi_zip.mpr ?_ | refine v_lstM ls_lst ?_ | refine v_min.mpr ?_ | refine v_max.mpr ?_ | refine wi_range1.mpr ?_ | refine wi_range2.mpr ?_ | refine wpI_int.mpr ?_ | refine wc_nil.mpr ?_ | refine wc_one.mpr ?_ | refine v_add.mpr ?_ | refine v_sub.mpr ?_ | refine v_lt.mpr ?_ | refine v_le.mpr ?_ | refine v_gt.mpr ?_ | refine v_ge.mpr ?_ | refine v_int.mpr ?_ | refine v_neg.mpr ?_ | refine v_augadd.mpr ?_ | refine v_augsub.mpr ?_ | refine v_eqInt.mpr ?_ | refine v_neInt.mpr ?_ | refine v_inStr.mpr ?_ | refine v_chkJ.mpr ?_ | refine part_nil.mpr ?_ | refine part_int.mpr ?_ | refine wpL_nx.mpr ?_ | refine wpL_ct.mpr ?_ | refine wpL_bk.mpr ?_ | refine wpL_rt.mpr ?_ | refine v_slScr.mpr ?_ | refine v_slTup.mpr ?_ | refine v_slLst.mpr ?_ | refine v_walkS.mpr ?_ | refine v_list sq_lst ?_ | refine v_list sq_tup ?_ | refine v_tuple sq_lst ?_ | refine v_tuple sq_tup ?_ | refine v_walk sq_lst ?_ | refine v_walk sq_tup ?_))
  | (with_reducible refine w_glo.mpr ?_); refine wpO_some.mpr ?_
  | (with_reducible refine x_aug.mpr ?_); refine wpO_some.mpr ?_
  | (with_reducible apply v_sub_sq (sq_ref (by assumption))); · rfl
  | (with_reducible apply v_sub_sq sq_tup); · rfl
  | (with_reducible apply v_set1 (by assumption)); · rfl
    · rfl
    intro _ _ _
  | (with_reducible refine v_mod.mpr ⟨?_, ?_⟩); · (first | decide | omega)
  | (with_reducible refine v_fdiv.mpr ⟨⟨?_, ?_⟩, ?_⟩); · (first | decide | omega)
    · (first | decide | assumption | (unfold BIG; omega))
  | (with_reducible refine v_mul.mpr ⟨⟨small_of ?_ ?_, small_of ?_ ?_⟩, ?_⟩); · (first | decide | omega)
    · (first | decide | omega)
    · (first | decide | omega)
    · (first | decide | omega)
  | (with_reducible refine v_pow.mpr ⟨⟨?_, ?_, ?_⟩, ?_⟩); · decide
    · decide
    · decide
  | (with_reducible refine v_len (sq_lst) ?_)
  | (with_reducible refine v_len (sq_ref (by assumption)) ?_)
  | (with_reducible refine v_mkF.mpr ⟨?_, ?_⟩); · (simp [line] <;> done)
  | (with_reducible refine v_mkM.mpr ⟨?_, ?_⟩); · (simp [line] <;> done)
  | (with_reducible refine v_mkT.mpr ⟨?_, ?_⟩); · (simp [line] <;> done)
  | (with_reducible apply v_getA (by assumption)); · rfl
    · rfl
  | (with_reducible apply v_methM (by assumption)); · rfl
    · rfl
    · rfl
  | (with_reducible apply v_setA (by assumption)); · rfl
    · (show _ < 1000; first | decide | (simp [putF]; done))
    · rfl
    intro _ _ _
  | (with_reducible refine w_lenO.mpr ?_))
theorem at_map {line : List Nat} {j k : Nat} (e : line[j]? = some k) : L2.atI (line.map fun (k : Nat) => LV.int (k : Int)) (j : Int) = some (.int k) :=
  L2.atI_nat (by rw [List.getElem?_map, e]; rfl)
theorem back_spec {D : Edg} {one other : Nat} {line : List Nat} {par : Nat → LV} {at_ pc : Nat} {o : LV} (B : BI n D d one other line par at_) (hn : n ≤ 1000) (hD : ∀ i j w, D i j w → i < n ∧ j < n) (hc : Closed n d) (ho : other < n) (hm : other ∈ line) (hp : h[pc]? = some (.dct (pd_ line par))) :
    wp (callF P (m + 1) "System.walked_back" [o, .ref pc, .int other] []) h fun v h' => ∃ l, Ch n D other one (d one other) l ∧ l.length ≤ n ∧ ChR h h' v l ∧ h.length ≤ h'.length ∧ ∀ k, k < h.length → h'[k]? = h[k]? := by
  refine callF_w rfl (vs := [o, .ref pc, .int other]) rfl ?_
  show wp (exSs P (callF P m) b_System_walked_back [some o, some (.ref pc), some (.int other), none]) h _
  unfold b_System_walked_back
  have hpl := (List.getElem?_eq_some_iff.mp hp).1
  have hll := nodup_le n line B.nd B.lt
  repeat infer_instance
  obtain ⟨i0, hi0, ei0⟩ := List.mem_iff_getElem.mp hm
  refine while_inv (fun mm env h' => ∃ (idx spot : Nat) (F : List LV), mm = idx ∧ line[idx]? = some spot ∧ env = [some o, some (.ref pc), some (.int spot), some (.ref h.length)] ∧ Ch n D other spot (d spot other) F.reverse ∧ F.length + idx ≤ n ∧ h'[h.length]? = some (.lst F) ∧ h'.length = h.length + 1 ∧ ∀ k, k < h.length → h'[k]? = h[k]?) ?_ _ i0 _ _ (by show i0 < 100000; omega) ⟨i0, other, [], rfl, by rw [List.getElem?_eq_getElem hi0, ei0], rfl, by rw [hc.dg other ho]; exact .nil, by simp; omega, List.getElem?_concat_length, by simp, fun k hk => List.getElem?_append_left hk⟩
  rintro mm env h1 ⟨idx, spot, F, em, hs, ee, hch, hl, hF, l1, f1⟩
  subst em
  subst ee
  have hp1 := (f1 pc hpl).trans hp
  have hsm : spot ∈ line := List.mem_of_getElem? hs
  have lk : lookD (pd_ line par) (.int spot) = some (par spot) := by rw [look_line, if_pos hsm]
  repeat infer_instance
  refine v_subD hp1 rfl lk ?_
  repeat infer_instance
  cases mm with
  | zero =>
    have e1 : spot = one := by
      have := B.hd
      rw [hs] at this
      exact Option.some.inj this
    subst e1
    rw [B.p0]
    refine dec_f rfl ?_
    repeat infer_instance
    refine v_rev (ls_ref hF) ?_
    first
      | refine v_mkF.mpr ⟨by rw [List.length_reverse]; show _ ≤ 16777216; omega, ?_⟩
        repeat infer_instance
        exact ⟨F.reverse, hch, by rw [List.length_reverse]; omega, rfl, by omega, f1⟩
      | refine v_mkM.mpr ⟨by rw [List.length_reverse]; show _ ≤ 16777216; omega, ?_⟩
        repeat infer_instance
        exact ⟨F.reverse, hch, by rw [List.length_reverse]; omega, ⟨_, rfl, by omega, List.getElem?_concat_length⟩, by rw [List.length_append]; omega, fun k hk => by rw [List.getElem?_append_left (by omega)]; exact f1 k hk⟩
  | succ j =>
    obtain ⟨i, p, w, hij, hip, ep, eD, et⟩ := B.pr j spot hs
    rw [ep]
    refine dec_t rfl ?_
    repeat infer_instance
    refine v_chkA (ls_ref hF) ?_
    repeat infer_instance
    refine v_subD hp1 rfl lk ?_
    repeat infer_instance
    refine v_app hF (by show _ < 16777216; omega) fun h2 eh2 rh2 => ?_
    have f2 : ∀ k, k < h.length → h2[k]? = h[k]? := fun k hk => by rw [eh2, List.getElem?_set_ne (by omega)]; exact f1 k hk
    have hp2 := (f2 pc hpl).trans hp
    repeat infer_instance
    refine v_subD hp2 rfl lk ?_
    rw [ep] at rh2 ⊢
    unfold bnd at rh2 ⊢
    repeat infer_instance
    refine ⟨i, by omega, i, p, F ++ [bnd p spot w], rfl, hip, rfl, ?_, by rw [List.length_append]; show F.length + 1 + i ≤ n; omega, rh2, by rw [eh2, List.length_set, l1], f2⟩
    rw [List.reverse_append]
    have := Ch.cons (n := n) (j := other) eD (hD _ _ _ eD).1 (hD _ _ _ eD).2 hch
    rw [et] at this
    exact this
theorem chain_spec (S : Sys s n lo hi bs d h) (hn : n ≤ 1000) (hB : BsOk n bs) (hl : bs.length ≤ 1000) (hc : Closed n d) (hle : ∀ v ∈ bs ++ ext lo hi (n - 1), ∃ (a b : Nat) (x : Int), v = bnd a b x ∧ a < n ∧ b < n ∧ d a b ≤ x) (Pt : Pth n (ED n lo hi bs) d) {one other : Nat} (h1 : one < n) (h2 : other < n) {args : List LV} {kws : List (String × LV)} (hbd : bindF f_System_chain args kws = some [.ref s, .int one, .int other]) :
    wp (callF P (m + 2) "System.chain" args kws) h fun v h' => ∃ l, Ch n (ED n lo hi bs) other one (d one other) l ∧ l.length ≤ n ∧ ChR h h' v l ∧ h.length ≤ h'.length ∧ ∀ k, k < h.length → h'[k]? = h[k]? := by
  have hED : ∀ i j w, ED n lo hi bs i j w → i < n ∧ j < n ∧ d i j ≤ w := fun i j w e => by
    obtain ⟨a, b, x, ev, ha, hb, hx⟩ := hle _ e
    obtain ⟨e1, e2, e3⟩ := bnd_inj ev
    subst e1 e2 e3
    exact ⟨ha, hb, hx⟩
  refine callF_w rfl hbd ?_
  show wp (exSs P (callF P (m + 1)) b_System_chain [some (.ref s), some (.int one), some (.int other), none, none, none, none, none, none, none]) h _
  unfold b_System_chain
  have hlt := S.lt
  have i0 := S.ins
  repeat infer_instance
  refine wp_mono (edges_spec S hn (by omega) hB hl) fun v h3 ⟨L, ev, E, l3, f3⟩ => ?_
  subst ev
  have S3 := S.frame (h' := h3) fun k _ _ => f3 k (by omega)
  repeat infer_instance
  refine v_mkD rfl ?_
  repeat infer_instance
  refine ⟨rfl, ?_⟩
  repeat infer_instance
  have lp : (h3 ++ [LO.dct [(LV.int one, LV.non)]]).length = h3.length + 1 := by simp
  rw [lp]
  refine while_inv (fun mm env h' => ∃ (line : List Nat) (par : Nat → LV) (at_ : Nat) (e7 e8 e9 : Option LV), mm = n - at_ ∧ env = [some (.ref s), some (.int one), some (.int other), some (.lst ((List.range n).map fun i => .lst (L i))), some (.ref h3.length), some (.ref (h3.length + 1)), some (.int at_), e7, e8, e9] ∧ BI n (ED n lo hi bs) d one other line par at_ ∧ h'[h3.length]? = some (.dct (pd_ line par)) ∧ h'[h3.length + 1]? = some (.lst (line.map fun (k : Nat) => LV.int (k : Int))) ∧ h'.length = h3.length + 2 ∧ ∀ k, k < h3.length → h'[k]? = h3[k]?) ?_ _ n _ _ (by show n < 100000; omega) ⟨[one], fun _ => .non, 0, none, none, none, rfl, rfl, ⟨by simp, fun k hk => by rw [List.mem_singleton.mp hk]; exact h1, rfl, rfl, fun j g hj => by simp at hj, fun j p hj => absurd hj (Nat.not_lt_zero _), Nat.zero_le _⟩, ?_, ?_, by simp, fun k hk => ?_⟩
  rotate_left
  · rw [List.getElem?_append_left (by rw [lp]; omega)]
    exact List.getElem?_concat_length
  · rw [← lp]
    exact List.getElem?_concat_length
  · rw [List.append_assoc, List.getElem?_append_left hk]
  rintro mm env h4 ⟨line, par, at_, e7, e8, e9, em, ee, B, hp4, hl4, l4, f4⟩
  subst em
  subst ee
  have hll := nodup_le n line B.nd B.lt
  have S4 := S3.frame (h' := h4) fun k _ _ => f4 k (by have := S3.lt; omega)
  repeat infer_instance
  refine v_ninD hp4 rfl ?_
  repeat infer_instance
  rw [look_line]
  by_cases hm : other ∈ line
  · rw [if_pos hm]
    refine dec_f rfl ?_
    have i4 := S4.ins
    repeat infer_instance
    refine wp_mono (back_spec (o := .ref s) B hn (fun i j w e => ⟨(hED i j w e).1, (hED i j w e).2.1⟩) hc h2 hm hp4) fun v h5 ⟨l, c1, c2, c3, l5, f5⟩ => ?_
    repeat infer_instance
    refine ⟨l, c1, c2, ?_, by omega, fun k hk => (f5 k (by omega)).trans ((f4 k (by omega)).trans (f3 k hk))⟩
    first
      | exact c3
      | obtain ⟨c, z1, z2, z3⟩ := c3
        exact ⟨c, z1, by omega, z3⟩
  · rw [if_neg hm]
    refine dec_t rfl ?_
    -- a node is left
    have hat : at_ < line.length := by
      refine Classical.byContradiction fun hno => hm ?_
      refine path_reach (V := fun k => k ∈ line) hc (fun i j w _ _ e => (hED i j w e).2.2) h2 (fun i k w hi hk hv hD ht => ?_) (Pt one other h1 h2) rfl h1 rfl (List.mem_of_getElem? B.hd)
      obtain ⟨j, hj, ej⟩ := List.mem_iff_getElem.mp hv
      exact B.ex j i (by omega) (by rw [List.getElem?_eq_getElem hj, ej]) k w hk hD ht
    obtain ⟨spot, hspot⟩ : ∃ p, line[at_]? = some p := ⟨_, List.getElem?_eq_getElem hat⟩
    have hsn : spot < n := B.lt spot (List.mem_of_getElem? hspot)
    repeat infer_instance
    refine v_sub_sq (sq_ref hl4) (at_map hspot) ?_
    repeat infer_instance
    refine v_sub_sq sq_lst (at_range hsn) ?_
    repeat infer_instance
    refine for_inv (fun t env h' => ∃ (line : List Nat) (par : Nat → LV) (e8 e9 : Option LV), env = [some (.ref s), some (.int one), some (.int other), some (.lst ((List.range n).map fun i => .lst (L i))), some (.ref h3.length), some (.ref (h3.length + 1)), some (.int at_), some (.int spot), e8, e9] ∧ BI n (ED n lo hi bs) d one other line par at_ ∧ line[at_]? = some spot ∧ (∀ b x, bnd spot b x ∈ (L spot).take t → x + d b other = d spot other → b ∈ line) ∧ h'[h3.length]? = some (.dct (pd_ line par)) ∧ h'[h3.length + 1]? = some (.lst (line.map fun (k : Nat) => LV.int (k : Int))) ∧ h'.length = h3.length + 2 ∧ ∀ k, k < h3.length → h'[k]? = h3[k]?) _ 0 _ _ ⟨line, par, _, _, rfl, B, hspot, fun b x hb => by simp at hb, hp4, hl4, l4, f4⟩ (fun _ _ _ _ => rfl) ?_ ?_
    · rintro t y env h5 hy ⟨line, par, e8', e9', ee, B, hspot, hdone, hp5, hl5, l5, f5⟩
      subst ee
      have hy' : (L spot)[t]? = some y := hy
      obtain ⟨hD, b, x, ey, hb⟩ := E.mem spot hsn y (List.mem_of_getElem? hy')
      subst ey
      rw [Nat.zero_add] at hdone ⊢
      have hll := nodup_le n line B.nd B.lt
      have S5 := S3.frame (h' := h5) fun k _ _ => f5 k (by have := S3.lt; omega)
      have i5 := S5.ins
      have o5 := S5.out
      have r5 := S5.row b hb
      have q5 := S5.row spot hsn
      have nx : ∀ {line' : List Nat}, (∀ k, k ∈ line → k ∈ line') → (x + d b other = d spot other → b ∈ line') → ∀ b' x', bnd spot b' x' ∈ (L spot).take (t + 1) → x' + d b' other = d spot other → b' ∈ line' := fun {line'} hsub hnew b' x' hm' ht' => by
        rw [List.take_succ, hy', List.mem_append] at hm'
        rcases hm' with z | z
        · exact hsub _ (hdone b' x' z ht')
        · have : bnd spot b' x' = bnd spot b x := by simpa using z
          obtain ⟨_, e2, e3⟩ := bnd_inj this
          subst e2 e3
          exact hnew ht'
      unfold bnd
      repeat infer_instance
      refine v_ninD hp5 rfl ?_
      repeat infer_instance
      rw [look_line]
      by_cases hbm : b ∈ line
      · rw [if_pos hbm]
        refine dec_f rfl ?_
        repeat infer_instance
        refine dec_f rfl ?_
        repeat infer_instance
        exact ⟨line, par, _, _, rfl, B, hspot, nx (fun _ z => z) fun _ => hbm, hp5, hl5, l5, f5⟩
      · rw [if_neg hbm]
        refine dec_t rfl ?_
        repeat infer_instance
        refine v_sub_sq (sq_ref o5) (at_range hb) ?_
        repeat infer_instance
        refine v_sub_sq (sq_ref r5) (at_range h2) ?_
        repeat infer_instance
        refine v_sub_sq (sq_ref o5) (at_range hsn) ?_
        repeat infer_instance
        refine v_sub_sq (sq_ref q5) (at_range h2) ?_
        repeat infer_instance
        refine dec2 (fun c => ?_) (fun c => ?_)
        · repeat infer_instance
          refine v_setD hp5 rfl (by unfold pd_; rw [List.length_map]; show _ < 16777216; omega) (put_line hbm) fun h6 eh6 rh6 => ?_
          have hl6 : h6[h3.length + 1]? = some (.lst (line.map fun (k : Nat) => LV.int (k : Int))) := by rw [eh6, List.getElem?_set_ne (by omega)]; exact hl5
          repeat infer_instance
          refine v_chkA (ls_ref hl6) ?_
          repeat infer_instance
          refine v_app hl6 (by rw [List.length_map]; show _ < 16777216; omega) fun h7 eh7 rh7 => ?_
          repeat infer_instance
          refine ⟨line ++ [b], _, _, _, rfl, B.grow hbm hb hspot hD c, by rw [List.getElem?_append_left (List.getElem?_eq_some_iff.mp hspot).1]; exact hspot, nx (fun _ z => List.mem_append.mpr (.inl z)) fun _ => by simp, ?_, ?_, by rw [eh7, List.length_set, eh6, List.length_set, l5], fun k hk => ?_⟩
          · rw [eh7, List.getElem?_set_ne (by omega)]
            exact rh6
          · rw [rh7, List.map_append]
            rfl
          · rw [eh7, List.getElem?_set_ne (by omega), eh6, List.getElem?_set_ne (by omega)]
            exact f5 k hk
        · repeat infer_instance
          exact ⟨line, par, _, _, rfl, B, hspot, nx (fun _ z => z) fun z => absurd z c, hp5, hl5, l5, f5⟩
    · rintro env h5 ⟨line, par, e8', e9', ee, B, hspot, hdone, hp5, hl5, l5, f5⟩
      subst ee
      have el : 0 + (L spot, still (LV.lst (L spot)) (L spot)).fst.length = (L spot).length := by simp
      rw [el, List.take_length] at hdone
      have hlen := (List.getElem?_eq_some_iff.mp hspot).1
      have hll := nodup_le n line B.nd B.lt
      repeat infer_instance
      refine ⟨n - (at_ + 1), by omega, line, par, at_ + 1, _, _, _, rfl, rfl, ⟨B.nd, B.lt, B.hd, B.p0, B.pr, fun j p hj hjp k w hk hDk ht => ?_, hlen⟩, hp5, hl5, l5, f5⟩
      by_cases c : j < at_
      · exact B.ex j p c hjp k w hk hDk ht
      · have : j = at_ := by omega
        subst this
        have : p = spot := Option.some.inj (hjp.symm.trans hspot)
        subst this
        exact hdone k w (E.all _ _ _ hsn hDk) ht
end
end Lk75

set_option Elab.async false
set_option linter.all false
set_option maxRecDepth 100000
set_option maxHeartbeats 4000000
namespace Lk75
open Mn Mx
theorem v_walkE {o : LV} {h : Hh} {w : Wk} {R : Wk → Hh → Prop} (e : walkV o h = .ok w h) (q : R w h) : wp (walkV o) h R := by
  unfold wp
  rw [e]
  exact q
theorem walk_lst {l : List LV} {h : Hh} : walkV (.lst l) h = .ok (l, still (.lst l) l) h := rfl
theorem walk_ref {c : Nat} {l : List LV} {h : Hh} (e : h[c]? = some (.lst l)) : walkV (.ref c) h = .ok (l, still (.ref c) l) h := by
  unfold walkV
  dsimp only
  rw [sq_ref e]
theorem bls_rep : ∀ i, bls (List.replicate i (LV.bl true)) = some (List.replicate i true)
  | 0 => rfl
  | i + 1 => by
    show (bls (List.replicate i (LV.bl true))).map (true :: ·) = _
    rw [bls_rep i]
    rfl
theorem isI_ref {c : Nat} {l : List LV} {h : Hh} (e : h[c]? = some (.lst l)) : isIV .list (.ref c) h = .ok true h := by
  unfold isIV
  dsimp only
  rw [e]
/-- known bounds as data -/
def KsOk (ks : List LV) : Prop := ∀ v ∈ ks, ∃ (a b : Nat) (x : Int), v = bnd a b x ∧ a ≤ 1000 ∧ b ≤ 1000 ∧ -100000000000000000 ≤ x ∧ x ≤ 100000000000000000
theorem bnd_sm {a b : Nat} {x : Int} (ha : a ≤ 1000) (hb : b ≤ 1000) (h1 : -100000000000000000 ≤ x) (h2 : x ≤ 100000000000000000) : (bnd a b x).sm = true := by
  have e : (10 : Nat) ^ 30 = 1000000000000000000000000000000 := by decide
  unfold bnd
  simp only [LV.sm, LV.sms, Bool.and_true, Bool.and_eq_true, decide_eq_true_eq]
  omega
theorem ks_sm {ks : List LV} (K : KsOk ks) : LV.sms ks = true ∧ LV.dps ks ≤ 1 ∧ LV.wts ks ≤ ks.length * 305 := by
  refine ⟨sms_all fun v hv => ?_, dps_le fun v hv => ?_, wts_le (B := 304) fun v hv => ?_⟩
  all_goals obtain ⟨a, b, x, ev, ha, hb, h1, h2⟩ := K v hv
  all_goals subst ev
  · exact bnd_sm ha hb h1 h2
  · unfold bnd
    simp [LV.dp, LV.dps]
  · unfold bnd
    simp [LV.wt, LV.wts]
theorem ks_of {n : Nat} {lo hi : Int} {bs : List LV} (B : BsOk n bs) (hn : n ≤ 1000) (h1 : lo ≤ hi) (h2 : -10 ≤ lo) (h3 : hi ≤ 2000000000000000) : KsOk (bs ++ ext lo hi (n - 1)) := fun v hv => by
  rcases List.mem_append.mp hv with z | z
  · obtain ⟨a, b, x, ev, ha, hb, x1, x2⟩ := B v z
    exact ⟨a, b, x, ev, by omega, by omega, by omega, by omega⟩
  · obtain ⟨i, hi_, e⟩ := ext_mem.mp z
    rcases e with e | e
    · exact ⟨_, _, _, e, by omega, by omega, by omega, by omega⟩
    · exact ⟨_, _, _, e, by omega, by omega, by omega, by omega⟩
section
variable {m : Nat} {h : Hh} {s n : Nat} {lo hi : Int} {bs : List LV} {d : Mat}
theorem Ch.mem {D : Edg} {j : Nat} : ∀ {i : Nat} {t : Int} {l : List LV}, Ch n D j i t l → ∀ v ∈ l, ∃ a b x, v = bnd a b x ∧ D a b x
  | _, _, _, .nil, v, hv => by cases hv
  | _, _, _, .cons e _ _ r, v, hv => by
    rcases List.mem_cons.mp hv with z | z
    · exact ⟨_, _, _, z, e⟩
    · exact Ch.mem r v z
local macro_rules | `(tactic| infer_instance) => `(tactic| first
  | (with_reducible refine w_loc.mpr ?_); refine wpO_some.mpr ?_
  | (with_reducible (first | refine w_cst.mpr ?_ | refine ws_cons.mpr ?_ | refine ws_nil.mpr ?_ | refine w_sub.mpr ?_ | refine w_bin.mpr ?_ | refine w_cmp.mpr ?_ | refine w_bcall.mpr ?_ | refine w_call.mpr ?_ | refine w_and.mpr ?_ | refine w_or.mpr ?_ | refine w_not.mpr ?_ | refine w_ite.mpr ?_ | refine w_chain.mpr ?_ | refine w_tup.mpr ?_ | refine w_list.mpr ?_ | refine w_comp.mpr ?_ | refine w_frz.mpr ?_ | refine w_slice.mpr ?_ | refine w_attr.mpr ?_ | refine w_meth.mpr ?_ | refine w_bmeth.mpr ?_ | refine w_bm0.mpr ?_ | refine w_dict1.mpr ?_ | refine w_rev.mpr ?_ | refine w_ins.mpr ?_ | refine w_lrng.mpr ?_ | refine w_isI.mpr ?_ | refine v_isN.mpr ?_ | refine v_isnN.mpr ?_ | refine v_isB.mpr ?_ | refine v_isnB.mpr ?_ | refine w_neg.mpr ?_ | refine w_repr.mpr ?_ | refine xs_cons.mpr ?_ | refine xs_nil.mpr ?_ | refine x_asg.mpr ?_ | refine x_if.mpr ?_ | refine x_ret.mpr ?_ | refine x_expr.mpr ?_ | refine x_for.mpr ?_ | refine x_while.mpr ?_ | refine x_pass.mpr ?_ | refine x_retN.mpr ?_ | refine x_brk.mpr ?_ | refine x_cont.mpr ?_ | refine wpF_nx.mpr ?_ | refine wpF_rt.mpr ?_ | refine wpF_bk.mpr ?_ | refine wpF_ct.mpr ?_ | refine end_rt.mpr ?_ | refine end_nx.mpr ?_ | refine wpB_bl.mpr ?_ | refine wpT_tup.mpr ?_ | refine wt_nm.mpr ?_ | refine wt_tup.mpr ?_ | refine wt_sub.mpr ?_ | refine wt_attr.mpr ?_ | refine wts_cons.mpr ?_ | refine wts_nil.mpr ?_ | refine wi_seq.mpr ?_ | refine wi_enum.mpr ?_ | refine wi_zip.mpr ?_ | refine v_lstM ls_lst ?_ | refine v_min.mpr ?_ | refine v_max.mpr ?_ | refine wi_range1.mpr ?_ | refine wi_range2.mpr ?_ | refine wpI_int.mpr ?_ | refine wc_nil.mpr ?_ | refine wc_one.mpr ?_ | refine v_add.mpr ?_ | refine v_sub.mpr ?_ | refine v_lt.mpr ?_ | refine v_le.mpr ?_ | refine v_gt.mpr ?_ | refine v_ge.mpr ?_ | refine v_int.mpr ?_ | refine v_neg.mpr ?_ | refine v_augadd.mpr ?_ | refine v_augsub.mpr ?_ | refine v_eqInt.mpr ?_ | refine v_neInt.mpr ?_ | refine v_inStr.mpr ?_ | refine v_chkJ.mpr ?_ | refine part_nil.mpr ?_ | refine part_int.mpr ?_ | refine wpL_nx.mpr ?_ | refine wpL_ct.mpr ?_ | refine wpL_bk.mpr ?_ | refine wpL_rt.mpr ?_ | refine v_slScr.mpr ?_ | refine v_slTup.mpr ?_ | refine v_slLst.mpr ?_ | refine v_walkS.mpr ?_ | refine v_list sq_lst ?_ | refine v_list sq_tup ?_ | refine v_tuple sq_lst ?_ | refine v_tuple sq_tup ?_ | refine v_walk sq_lst ?_ | refine v_walk sq_tup ?_))
  | (with_reducible refine w_glo.mpr ?_); refine wpO_some.mpr ?_
  | (with_reducible refine x_aug.mpr ?_); refine wpO_some.mpr ?_
  | (with_reducible apply v_sub_sq (sq_ref (by assumption))); · rfl
  | (with_reducible apply v_sub_sq sq_tup); · rfl
  | (with_reducible apply v_set1 (by assumption)); · rfl
    · rfl
    intro _ _ _
  | (with_reducible refine v_mod.mpr ⟨?_, ?_⟩); · (first | decide | omega)
  | (with_reducible refine v_fdiv.mpr ⟨⟨?_, ?_⟩, ?_⟩); · (first | decide | omega)
    · (first | decide | assumption | (unfold BIG; omega))
  | (with_reducible refine v_mul.mpr ⟨⟨small_of ?_ ?_, small_of ?_ ?_⟩, ?_⟩); · (first | decide | omega)
    · (first | decide | omega)
    · (first | decide | omega)
    · (first | decide | omega)
  | (with_reducible refine v_pow.mpr ⟨⟨?_, ?_, ?_⟩, ?_⟩); · decide
    · decide
    · decide
  | (with_reducible refine v_len (sq_lst) ?_)
  | (with_reducible refine v_len (sq_ref (by assumption)) ?_)
  | (with_reducible refine v_mkF.mpr ⟨?_, ?_⟩); · (simp [line] <;> done)
  | (with_reducible refine v_mkM.mpr ⟨?_, ?_⟩); · (simp [line] <;> done)
  | (with_reducible refine v_mkT.mpr ⟨?_, ?_⟩); · (simp [line] <;> done)
  | (with_reducible apply v_getA (by assumption)); · rfl
    · rfl
  | (with_reducible apply v_methM (by assumption)); · rfl
    · rfl
    · rfl
  | (with_reducible apply v_setA (by assumption)); · rfl
    · (show _ < 1000; first | decide | (simp [putF]; done))
    · rfl
    intro _ _ _
  | (with_reducible refine w_lenO.mpr ?_))
end
end Lk75

set_option Elab.async false
set_option linter.all false
set_option maxRecDepth 100000
set_option maxHeartbeats 4000000
namespace Lk75
open Mn Mx
/-! plain facts -/
def pot (p : Nat → Int) : Mat := fun i j => p i - p j
def Lo (n : Nat) (p : Nat → Int) (d : Mat) : Prop := ∀ i j, i < n → j < n → p i - p j ≤ d i j
theorem Lo.start {n : Nat} {p : Nat → Int} {hi : Int} (h0 : p 0 = 0) (h : ∀ i, i ≠ 0 → i < n → 0 ≤ p i ∧ p i ≤ hi) : Lo n p (fg 0 hi) := fun i j hi_ hj => by
  unfold fg
  by_cases c1 : i = j
  · subst c1
    simp
  · rw [if_neg c1]
    by_cases c2 : i = 0
    · subst c2
      rw [if_pos rfl]
      have := h j (Ne.symm c1) hj
      omega
    · rw [if_neg c2]
      have := h i c2 hi_
      by_cases c3 : j = 0
      · subst c3
        rw [if_pos rfl]
        omega
      · rw [if_neg c3]
        have := h j c3 hj
        omega
theorem Lo.inc {n : Nat} {p : Nat → Int} {d : Mat} (l : Lo n p d) {a b : Nat} {x : Int} (ha : a < n) (hb : b < n) (hx : p a - p b ≤ x) : Lo n p (inc d a b x) := fun i j hi hj => by
  have h1 := l i j hi hj
  have h2 := l i a hi ha
  have h3 := l b j hb hj
  unfold Mx.inc
  omega
def th : LV → Int
  | .tup [_, _, .int x] => x
  | _ => 0
theorem th_bnd {a b : Nat} {x : Int} : th (bnd a b x) = x := rfl
theorem ch_sum {n : Nat} {D : Edg} {j : Nat} : ∀ {i : Nat} {t : Int} {l : List LV}, Ch n D j i t l → (l.map th).sum = t
  | _, _, _, .nil => rfl
  | _, _, _, .cons e _ _ r => by rw [List.map_cons, List.sum_cons, th_bnd, ch_sum r]
theorem ch_first {n : Nat} {D : Edg} {j i : Nat} {t : Int} {l : List LV} (c : Ch n D j i t l) (h : i ≠ j) : ∃ k w l', l = bnd i k w :: l' := by
  cases c with
  | nil => exact absurd rfl h
  | cons e _ _ r => exact ⟨_, _, _, rfl⟩
theorem ch_last {n : Nat} {D : Edg} {j : Nat} : ∀ {i : Nat} {t : Int} {l : List LV}, Ch n D j i t l → l ≠ [] → ∃ a w, l[l.length - 1]? = some (bnd a j w)
  | _, _, _, .nil, h => absurd rfl h
  | _, _, _, @Ch.cons _ _ _ i k w s l e _ _ r, _ => by
    by_cases c : l = []
    · subst c
      cases r
      exact ⟨i, w, rfl⟩
    · obtain ⟨a, w', h⟩ := ch_last r c
      refine ⟨a, w', ?_⟩
      have hl : 0 < l.length := List.length_pos_iff.mpr c
      rw [List.length_cons, show l.length + 1 - 1 = (l.length - 1) + 1 by omega, List.getElem?_cons_succ]
      exact h
theorem at_last {xs : List LV} {v : LV} (h : xs[xs.length - 1]? = some v) : L2.atI xs (-1) = some v := by
  have hl := (List.getElem?_eq_some_iff.mp h).1
  unfold L2.atI L2.ixN
  rw [if_neg (by omega), if_pos (by omega)]
  show xs[((-1 : Int) + xs.length).toNat]? = _
  rw [show ((-1 : Int) + xs.length).toNat = xs.length - 1 by omega]
  exact h
theorem ints_id : ∀ l : List Int, intsL (l.map LV.int) = some l
  | [] => rfl
  | a :: l => by
    show (intsL (l.map LV.int)).map (a :: ·) = _
    rw [ints_id l]
    rfl
theorem cut_take {α : Type} {xs : List α} {k : Nat} (h : k ≤ xs.length) : cut xs none (some (k : Int)) = xs.take k := by
  have e1 : HT.sIx xs.length 0 none = 0 := by simp [HT.sIx]
  have e2 : HT.sIx xs.length xs.length (some (k : Int)) = k := by
    rw [HT.sIx_nat]
    omega
  unfold cut
  rw [e1, e2]
  simp
section
variable {m : Nat} {h : Hh} {s n : Nat} {lo hi : Int} {bs : List LV} {d : Mat}
local macro_rules | `(tactic| infer_instance) => `(tactic| first
  | (with_reducible refine w_loc.mpr ?_); refine wpO_some.mpr ?_
  | (with_reducible (first | refine w_cst.mpr ?_ | refine ws_cons.mpr ?_ | refine ws_nil.mpr ?_ | refine w_sub.mpr ?_ | refine w_bin.mpr ?_ | refine w_cmp.mpr ?_ | refine w_bcall.mpr ?_ | refine w_call.mpr ?_ | refine w_and.mpr ?_ | refine w_or.mpr ?_ | refine w_not.mpr ?_ | refine w_ite.mpr ?_ | refine w_chain.mpr ?_ | refine w_tup.mpr ?_ | refine w_list.mpr ?_ | refine w_comp.mpr ?_ | refine w_frz.mpr ?_ | refine w_slice.mpr ?_ | refine w_attr.mpr ?_ | refine w_meth.mpr ?_ | refine w_bmeth.mpr ?_ | refine w_bm0.mpr ?_ | refine w_dict1.mpr ?_ | refine w_rev.mpr ?_ | refine w_ins.mpr ?_ | refine w_lrng.mpr ?_ | refine w_isI.mpr ?_ | refine v_isN.mpr ?_ | refine v_isnN.mpr ?_ | refine v_isB.mpr ?_ | refine v_isnB.mpr ?_ | refine w_neg.mpr ?_ | refine w_repr.mpr ?_ | refine xs_cons.mpr ?_ | refine xs_nil.mpr ?_ | refine x_asg.mpr ?_ | refine x_if.mpr ?_ | refine x_ret.mpr ?_ | refine x_expr.mpr ?_ | refine x_for.mpr ?_ | refine x_while.mpr ?_ | refine x_pass.mpr ?_ | refine x_retN.mpr ?_ | refine x_brk.mpr ?_ | refine x_cont.mpr ?_ | refine wpF_nx.mpr ?_ | refine wpF_rt.mpr ?_ | refine wpF_bk.mpr ?_ | refine wpF_ct.mpr ?_ | refine end_rt.mpr ?_ | refine end_nx.mpr ?_ | refine wpB_bl.mpr ?_ | refine wpT_tup.mpr ?_ | refine wt_nm.mpr ?_ | refine wt_tup.mpr ?_ | refine wt_sub.mpr ?_ | refine wt_attr.mpr ?_ | refine wts_cons.mpr ?_ | refine wts_nil.mpr ?_ | refine wi_seq.mpr ?_ | refine wi_enum.mpr ?_ | refine wi_zip.mpr ?_ | refine v_lstM ls_lst ?_ | refine v_min.mpr ?_ | refine v_max.mpr ?_ | refine wi_range1.mpr ?_ | refine wi_range2.mpr ?_ | refine wpI_int.mpr ?_ | refine wc_nil.mpr ?_ | refine wc_one.mpr ?_ | refine v_add.mpr ?_ | refine v_sub.mpr ?_ | refine v_lt.mpr ?_ | refine v_le.mpr ?_ | refine v_gt.mpr ?_ | refine v_ge.mpr ?_ | refine v_int.mpr ?_ | refine v_neg.mpr ?_ | refine v_augadd.mpr ?_ | refine v_augsub.mpr ?_ | refine v_eqInt.mpr ?_ | refine v_neInt.mpr ?_ | refine v_inStr.mpr ?_ | refine v_chkJ.mpr ?_ | refine part_nil.mpr ?_ | refine part_int.mpr ?_ | refine wpL_nx.mpr ?_ | refine wpL_ct.mpr ?_ | refine wpL_bk.mpr ?_ | refine wpL_rt.mpr ?_ | refine v_slScr.mpr ?_ | refine v_slTup.mpr ?_ | refine v_slLst.mpr ?_ | refine v_walkS.mpr ?_ | refine v_list sq_lst ?_ | refine v_list sq_tup ?_ | refine v_tuple sq_lst ?_ | refine v_tuple sq_tup ?_ | refine v_walk sq_lst ?_ | refine v_walk sq_tup ?_))
  | (with_reducible refine w_glo.mpr ?_); refine wpO_some.mpr ?_
  | (with_reducible refine x_aug.mpr ?_); refine wpO_some.mpr ?_
  | (with_reducible apply v_sub_sq (sq_ref (by assumption))); · rfl
  | (with_reducible apply v_sub_sq sq_tup); · rfl
  | (with_reducible apply v_set1 (by assumption)); · rfl
    · rfl
    intro _ _ _
  | (with_reducible refine v_mod.mpr ⟨?_, ?_⟩); · (first | decide | omega)
  | (with_reducible refine v_fdiv.mpr ⟨⟨?_, ?_⟩, ?_⟩); · (first | decide | omega)
    · (first | decide | assumption | (unfold BIG; omega))
  | (with_reducible refine v_mul.mpr ⟨⟨small_of ?_ ?_, small_of ?_ ?_⟩, ?_⟩); · (first | decide | omega)
    · (first | decide | omega)
    · (first | decide | omega)
    · (first | decide | omega)
  | (with_reducible refine v_pow.mpr ⟨⟨?_, ?_, ?_⟩, ?_⟩); · decide
    · decide
    · decide
  | (with_reducible refine v_len (sq_lst) ?_)
  | (with_reducible refine v_len (sq_ref (by assumption)) ?_)
  | (with_reducible refine v_mkF.mpr ⟨?_, ?_⟩); · (simp [line] <;> done)
  | (with_reducible refine v_mkM.mpr ⟨?_, ?_⟩); · (simp [line] <;> done)
  | (with_reducible refine v_mkT.mpr ⟨?_, ?_⟩); · (simp [line] <;> done)
  | (with_reducible apply v_getA (by assumption)); · rfl
    · rfl
  | (with_reducible apply v_methM (by assumption)); · rfl
    · rfl
    · rfl
  | (with_reducible apply v_setA (by assumption)); · rfl
    · (show _ < 1000; first | decide | (simp [putF]; done))
    · rfl
    intro _ _ _
  | (with_reducible refine w_lenO.mpr ?_))
theorem comp_rngL {n : Nat} (hn : n ≤ 1000) {P : Prog} {cf : CF} {env : Env} {own : List Nat} {elt : E} {q : Nat} {h : Hh} {K : List LV → Hh → Prop} {L : List LV} (hL : rangeL 0 (n : Int) = L) (g : Nat → LV) (step : ∀ j, j < n → wp (evE P cf elt ((wipeE env own).set q (some (.int j)))) h fun v h' => v = g j ∧ h' = h) (done : K ((List.range n).map g) h) :
    wp (noX (compL (L, fun (_ : Hh) => true).snd (bindT P cf (.nm q)) (fun e => evConds P cf .nil e) (fun e => evE P cf elt e) (wipeE env own) (L, fun (_ : Hh) => true).fst [])) h K := by
  subst hL
  exact comp_rng hn g step done
theorem comp_rng1 {n : Nat} (hn : n ≤ 1000) {P : Prog} {cf : CF} {env : Env} {own : List Nat} {elt : E} {q : Nat} {h : Hh} {K : List LV → Hh → Prop} {L : List LV} (hL : rangeL 1 (n : Int) = L) (g : Nat → LV) (step : ∀ j, j + 1 < n → wp (evE P cf elt ((wipeE env own).set q (some (.int ((j + 1 : Nat) : Int))))) h fun v h' => v = g j ∧ h' = h) (done : K ((List.range (n - 1)).map g) h) :
    wp (noX (compL (L, fun (_ : Hh) => true).snd (bindT P cf (.nm q)) (fun e => evConds P cf .nil e) (fun e => evE P cf elt e) (wipeE env own) (L, fun (_ : Hh) => true).fst [])) h K := by
  subst hL
  refine comp_inv (fun i acc h' => h' = h ∧ acc = (List.range i).map g) _ 0 [] h ⟨rfl, rfl⟩ (fun _ _ _ _ => rfl) ?_ ?_
  · rintro j y acc h1 hy ⟨eh, ea⟩
    subst eh
    subst ea
    rw [Nat.zero_add]
    obtain ⟨hj, ey⟩ := rng1_item hy
    subst ey
    refine wt_nm.mpr (wc_nil.mpr (dec_t rfl ?_))
    refine wp_mono (step j hj) fun v h2 ⟨ev, eh⟩ => ?_
    subst ev
    subst eh
    refine ⟨by simp [line]; omega, rfl, ?_⟩
    rw [List.range_succ, List.map_append]
    rfl
  · rintro acc h1 ⟨eh, ea⟩
    subst eh
    subst ea
    have el : 0 + (rangeL 1 (n : Int), fun (_ : Hh) => true).fst.length = n - 1 := by
      show 0 + (rangeL 1 (n : Int)).length = n - 1
      simp [rangeL]
    rw [el]
    exact done
theorem v_seqM {o : LV} {xs : List LV} {R : List LV → Hh → Prop} (e : seqOf h o = some xs) (q : R xs h) : wp (seqM o) h R := by
  unfold wp
  rw [seqM_some e]
  exact q
theorem ring_spec (S : Sys s n lo hi bs d h) (hn : n ≤ 1000) (hB : BsOk n bs) (hl : bs.length ≤ 1000) (hc : Closed n d) (hle : ∀ v ∈ bs ++ ext lo hi (n - 1), ∃ (a b : Nat) (x : Int), v = bnd a b x ∧ a < n ∧ b < n ∧ d a b ≤ x) (Pt : Pth n (ED n lo hi bs) d) {a b : Nat} {x : Int} (ha : a < n) (hb : b < n) :
    wp (callF P (m + 3) "System.ring" [.ref s, .int a, .int b, .int x] []) h fun v h' => (0 ≤ d b a + x → v = .non) ∧ (¬ 0 ≤ d b a + x → ∃ l, Ch n (ED n lo hi bs) a b (d b a) l ∧ l.length ≤ n ∧ v = .lst (bnd a b x :: l)) ∧ h.length ≤ h'.length ∧ ∀ k, k < h.length → h'[k]? = h[k]? := by
  refine callF_w rfl (vs := [.ref s, .int a, .int b, .int x]) rfl ?_
  show wp (exSs P (callF P (m + 2)) b_System_ring [some (.ref s), some (.int a), some (.int b), some (.int x)]) h _
  unfold b_System_ring
  have i0 := S.ins
  repeat infer_instance
  refine wp_mono (can_spec S ha hb) fun v h1 ⟨ev, eh⟩ => ?_
  subst ev
  subst eh
  repeat infer_instance
  refine dec2 (fun c => ?_) (fun c => ?_)
  · repeat infer_instance
    exact ⟨fun _ => rfl, fun z => absurd c z, Nat.le_refl _, fun _ _ => rfl⟩
  · repeat infer_instance
    refine ws_star.mpr ?_
    repeat infer_instance
    refine wp_mono (chain_spec S hn hB hl hc hle Pt hb ha rfl) fun v h2 ⟨l, hch, hll, ev, l2, f2⟩ => ?_
    have ev' : v = .lst l := ev
    subst ev'
    refine v_seqM sq_lst ?_
    repeat infer_instance
    refine v_mkF.mpr ⟨by simp [line]; omega, ?_⟩
    repeat infer_instance
    exact ⟨fun z => absurd z c, fun _ => ⟨l, hch, hll, by simp [bnd]⟩, l2, f2⟩
theorem mixed_spec {k : Int} (R : Rng 0 k h) (hk : k < 1000) : wp (callF P (m + 2) "_law_mixed" [.ref 0, .lst (rangeL 0 (29 : Nat))] []) h fun v h' => ∃ F : List Nat, v = .lst (F.map fun (k : Nat) => LV.int (k : Int)) ∧ F.length = 29 ∧ (∀ k, k ∈ F ↔ k < 29) ∧ Rng 0 (k + 29) h' ∧ h.length ≤ h'.length ∧ ∀ j, j ≠ 0 → j < h.length → h'[j]? = h[j]? := by
  refine callF_w rfl (vs := [.ref 0, .lst (rangeL 0 (29 : Nat))]) rfl ?_
  show wp (exSs P (callF P (m + 1)) b_law_mixed [some (.ref 0), some (.lst (rangeL 0 (29 : Nat))), none, none]) h _
  unfold b_law_mixed
  have h0 := rng_lt R
  repeat infer_instance
  refine for_inv (fun t env h' => ∃ (e3 : Option LV) (F : List Nat), env = [some (.ref 0), some (.lst (rangeL 0 (29 : Nat))), some (.ref h.length), e3] ∧ h'[h.length]? = some (.lst (F.map fun (k : Nat) => LV.int (k : Int))) ∧ F.length = t ∧ (∀ k, k ∈ F ↔ k < t) ∧ Rng 0 (k + t) h' ∧ h'.length = h.length + 1 ∧ ∀ j, j ≠ 0 → j < h.length → h'[j]? = h[j]?) _ 0 _ _ ⟨none, [], rfl, List.getElem?_concat_length, rfl, fun k => by simp, by rw [show (k : Int) + ((0 : Nat) : Int) = k by omega]; exact rng_frame R (List.getElem?_append_left h0), by simp, fun j _ hj => List.getElem?_append_left hj⟩ (fun _ _ _ _ => rfl) ?_ ?_
  · rintro t y env h1 hy ⟨e3, F, ee, hF, lF, mF, R1, l1, f1⟩
    subst ee
    obtain ⟨ht, ey⟩ := rng_item hy
    subst ey
    rw [Nat.zero_add] at lF mF R1 ⊢
    repeat infer_instance
    refine v_chkA (ls_ref hF) ?_
    repeat infer_instance
    refine wp_mono (draw_spec hD (by omega) (by unfold BIG; simp; omega) R1 (by omega)) fun v h2 ⟨i, ev, i1, i2, o2, eh2, R2⟩ => ?_
    subst ev
    have hF2 : h2[h.length]? = some (.lst (F.map fun (k : Nat) => LV.int (k : Int))) := by rw [eh2, List.getElem?_set_ne (by omega)]; exact hF
    repeat infer_instance
    rw [List.length_map] at i2
    refine v_ins hF2 (by rw [List.length_map]; show _ < 16777216; omega) i1 (by show i ≤ 16777216; omega) fun h3 eh3 rh3 => ?_
    repeat infer_instance
    refine ⟨_, F.take i.toNat ++ [t] ++ F.drop i.toNat, rfl, ?_, ?_, fun q => ?_, ?_, by rw [eh3, List.length_set, eh2, List.length_set, l1], fun j h1 h2 => ?_⟩
    · rw [rh3, List.map_append, List.map_append, List.map_take, List.map_drop]
      rfl
    · rw [List.length_append, List.length_append, List.length_take, List.length_drop, List.length_singleton]
      omega
    · have e : q ∈ F.take i.toNat ++ [t] ++ F.drop i.toNat ↔ q ∈ F ∨ q = t := by
        have e1 : q ∈ F ↔ q ∈ F.take i.toNat ∨ q ∈ F.drop i.toNat := by
          rw [← List.mem_append, List.take_append_drop]
        rw [e1]
        simp only [List.mem_append, List.mem_singleton]
        constructor
        · rintro ((x | x) | x)
          · exact .inl (.inl x)
          · exact .inr x
          · exact .inl (.inr x)
        · rintro ((x | x) | x)
          · exact .inl (.inl x)
          · exact .inr x
          · exact .inl (.inr x)
      rw [e, mF]
      omega
    · exact (rng_frame R2 (by rw [eh3, List.getElem?_set_ne (by omega)])).mono (by omega)
    · rw [eh3, List.getElem?_set_ne (by omega), eh2, List.getElem?_set_ne (Ne.symm h1)]
      exact f1 j h1 h2
  · rintro env h1 ⟨e3, F, ee, hF, lF, mF, R1, l1, f1⟩
    subst ee
    have el : 0 + (rangeL 0 ((29 : Nat) : Int), still (LV.lst (rangeL 0 ((29 : Nat) : Int))) (rangeL 0 ((29 : Nat) : Int))).fst.length = 29 := by
      show 0 + (rangeL 0 ((29 : Nat) : Int)).length = 29
      rw [rng_len]
    rw [el] at lF mF R1
    repeat infer_instance
    refine frz_ref hF ?_
    refine wp_mono (frz_ints _ fun v hv => ?_) fun ys h2 ⟨ey, eh⟩ => ?_
    · obtain ⟨k, _, e⟩ := List.mem_map.mp hv
      exact ⟨_, e.symm⟩
    subst ey
    subst eh
    repeat infer_instance
    exact ⟨F, rfl, lF, mF, rng_frame R1 (by rw [List.getElem?_set_ne (by omega)]), by rw [List.length_set]; omega, fun j h1 h2 => by rw [List.getElem?_set_ne (by omega)]; exact f1 j h1 h2⟩
/-- sums of the first steps -/
def sm (st : List Int) (k : Nat) : Int := (st.take k).sum
theorem sm_succ {st : List Int} {k : Nat} (h : k < st.length) : sm st (k + 1) = sm st k + st[k] := by
  unfold sm
  rw [List.take_succ, List.getElem?_eq_getElem h, List.sum_append]
  simp
theorem sm_mono {st : List Int} (h : ∀ x ∈ st, 0 ≤ x ∧ x ≤ 3) (hl : st.length = 29) : ∀ k, k ≤ 29 → 0 ≤ sm st k ∧ sm st k ≤ 3 * k
  | 0, _ => by simp [sm]
  | k + 1, hk => by
    have h1 := sm_mono h hl k (by omega)
    have h2 := h (st[k]'(by omega)) (List.getElem_mem _)
    rw [sm_succ (by omega)]
    omega
theorem sm_le {st : List Int} (h : ∀ x ∈ st, 0 ≤ x ∧ x ≤ 3) (hl : st.length = 29) (j : Nat) : ∀ k, j + k ≤ 29 → sm st j ≤ sm st (j + k)
  | 0, _ => Int.le_refl _
  | k + 1, hk => by
    have h1 := sm_le h hl j k (by omega)
    have h2 := h (st[j + k]'(by omega)) (List.getElem_mem _)
    rw [show j + (k + 1) = (j + k) + 1 by omega, sm_succ (by omega)]
    omega
/-- the three systems of numbers -/
def p1 (st : List Int) (i : Nat) : Int := if i = 0 then 0 else sm st (i - 1)
def p2 (st : List Int) (room : Int) (i : Nat) : Int := if i = 0 then 0 else if i = 30 then sm st 29 + room else sm st (i - 1)
def p3 (st : List Int) (i : Nat) : Int := if i = 0 then 0 else 200 - sm st 29 + sm st (i - 1)
structure Inv3 (st : List Int) (room : Int) (d : Mat) : Prop where
  a : Lo 31 (p1 st) d
  b : Lo 31 (p2 st room) d
  c : Lo 31 (p3 st) d
structure Cond (st : List Int) (room : Int) : Prop where
  len : st.length = 29
  st : ∀ x ∈ st, 0 ≤ x ∧ x ≤ 3
  r0 : 0 ≤ room
  r1 : room < 40
theorem inv_start {st : List Int} {room : Int} (C : Cond st room) : Inv3 st room (fg 0 200) := by
  have m := sm_mono C.st C.len
  have l := sm_le C.st C.len
  have m29 := m 29 (by omega)
  have r0 := C.r0
  have r1 := C.r1
  refine ⟨Lo.start rfl fun i h0 hi => ?_, Lo.start rfl fun i h0 hi => ?_, Lo.start rfl fun i h0 hi => ?_⟩
  · have := m (i - 1) (by omega)
    unfold p1
    rw [if_neg h0]
    omega
  · unfold p2
    rw [if_neg h0]
    by_cases c : i = 30
    · rw [if_pos c]
      omega
    · rw [if_neg c]
      have := m (i - 1) (by omega)
      omega
  · have h1 := m (i - 1) (by omega)
    have h2 := l (i - 1) (29 - (i - 1)) (by omega)
    rw [show i - 1 + (29 - (i - 1)) = 29 by omega] at h2
    unfold p3
    rw [if_neg h0]
    omega
theorem inv_step {st : List Int} {room : Int} {d : Mat} (C : Cond st room) (I : Inv3 st room d) {k : Nat} (hk : k < 29) : Inv3 st room (inc d (k + 1) (k + 2) (0 - st[k]'(by have := C.len; omega))) := by
  have hl := C.len
  have e := sm_succ (st := st) (k := k) (by omega)
  have r0 := C.r0
  refine ⟨I.a.inc (by omega) (by omega) ?_, I.b.inc (by omega) (by omega) ?_, I.c.inc (by omega) (by omega) ?_⟩
  · simp only [p1, if_neg (show k + 1 ≠ 0 by omega), if_neg (show k + 2 ≠ 0 by omega), show k + 1 - 1 = k by omega, show k + 2 - 1 = k + 1 by omega]
    omega
  · simp only [p2, if_neg (show k + 1 ≠ 0 by omega), if_neg (show k + 2 ≠ 0 by omega), if_neg (show k + 1 ≠ 30 by omega), show k + 1 - 1 = k by omega, show k + 2 - 1 = k + 1 by omega]
    by_cases c : k + 2 = 30
    · rw [if_pos c]
      have : k = 28 := by omega
      subst this
      have e' : sm st 29 = sm st 28 + st[28]'(by omega) := e
      omega
    · rw [if_neg c]
      omega
  · simp only [p3, if_neg (show k + 1 ≠ 0 by omega), if_neg (show k + 2 ≠ 0 by omega), show k + 1 - 1 = k by omega, show k + 2 - 1 = k + 1 by omega]
    omega
theorem inv_last {st : List Int} {room : Int} {d : Mat} (C : Cond st room) (I : Inv3 st room d) : Inv3 st room (inc d 30 1 (sm st 29 + room)) := by
  have r0 := C.r0
  have m29 := sm_mono C.st C.len 29 (by omega)
  have e0 : sm st 0 = 0 := by simp [sm]
  refine ⟨I.a.inc (by omega) (by omega) ?_, I.b.inc (by omega) (by omega) ?_, I.c.inc (by omega) (by omega) ?_⟩
  · show sm st 29 - sm st 0 ≤ _
    omega
  · show sm st 29 + room - sm st 0 ≤ _
    omega
  · show 200 - sm st 29 + sm st 29 - (200 - sm st 29 + sm st 0) ≤ _
    omega
/-- the gaps from the first one, from above -/
theorem from_one {st : List Int} {d : Mat} (hl : st.length = 29) (hc : Closed 31 d) (hu : ∀ k, (hk : k < 29) → d (k + 1) (k + 2) ≤ 0 - st[k]) : ∀ k, k ≤ 29 → d 1 (k + 1) ≤ -(sm st k)
  | 0, _ => by
    have := hc.dg 1 (by omega)
    simp [sm]
    omega
  | k + 1, hk => by
    have h1 := from_one hl hc hu k (by omega)
    have h2 := hu k (by omega)
    have h3 := hc.tr 1 (k + 2) (k + 1) (by omega) (by omega) (by omega)
    rw [sm_succ (by omega)]
    show d 1 (k + 2) ≤ _
    omega
theorem law_spec (ns : List Int) : wp (callF P (m + 6) "law" [.scr ns] []) [] fun v _ => v = .bl true := by
  refine callF_w rfl (vs := [.scr ns]) rfl ?_
  show wp (exSs P (callF P (m + 5)) b_law [some (.scr ns), none, none, none, none, none, none, none, none, none, none, none, none, none, none]) [] _
  unfold b_law
  repeat infer_instance
  refine wp_mono (source_spec hO) fun v h0 ⟨ev, o, eh, R0⟩ => ?_
  subst ev
  repeat infer_instance
  refine ⟨by simp [rangeOk], ?_⟩
  refine comp_inv (fun i acc h' => ∃ st : List Int, acc = st.map LV.int ∧ st.length = i ∧ (∀ x ∈ st, 0 ≤ x ∧ x ≤ 3) ∧ Rng 0 i h') _ 0 [] h0 ⟨[], rfl, rfl, fun x hx => (nomatch hx), R0⟩ (fun _ _ _ _ => rfl) ?_ ?_
  · rintro j y acc h1 hy ⟨st, ea, el, es, R1⟩
    have hj : j < 29 := by
      have h2 : (rangeL 0 ((29 : Nat) : Int))[j]? = some y := hy
      exact (rng_item h2).1
    subst ea
    rw [Nat.zero_add] at el R1 ⊢
    repeat infer_instance
    refine dec_t rfl ?_
    repeat infer_instance
    refine wp_mono (draw_spec hD (by omega) (by unfold BIG; omega) R1 (by omega)) fun v h2 ⟨t, ev, t1, t2, o2, eh2, R2⟩ => ?_
    subst ev
    refine ⟨by rw [List.length_map, el]; show _ < 16777216; omega, st ++ [t], by rw [List.map_append]; rfl, by rw [List.length_append, el]; rfl, fun x hx => ?_, R2.mono (by omega)⟩
    rcases List.mem_append.mp hx with z | z
    · exact es x z
    · rw [List.mem_singleton.mp z]
      omega
  rintro acc h1 ⟨st, ea, el, es, R1⟩
  subst ea
  have el29 : st.length = 29 := by
    have : 0 + (rangeL 0 ((29 : Nat) : Int), fun (_ : Hh) => true).fst.length = 29 := by
      show 0 + (rangeL 0 ((29 : Nat) : Int)).length = 29
      rw [rng_len]
    exact el.trans this
  have R1' : Rng 0 29 h1 := by rw [← el, el29] at R1; exact R1
  clear el R1
  refine v_mkF.mpr ⟨by rw [List.length_map, el29]; show (29 : Nat) ≤ 16777216; omega, ?_⟩
  repeat infer_instance
  refine (w_make rfl).mpr ?_
  repeat infer_instance
  have hs0 := rng_lt R1'
  refine wp_mono (init_spec (q := 30) (n := 31) (lo := 0) (hi := 200) rfl (by omega)) fun v h2 ⟨ev, S2, l2, f2⟩ => ?_
  subst ev
  refine ⟨rfl, ?_⟩
  generalize h1.length = s at S2 l2 f2 hs0 ⊢
  have R2 := rng_frame R1' (f2 0 hs0)
  repeat infer_instance
  refine wp_mono (draw_spec hD (by omega) (by unfold BIG; omega) R2 (by omega)) fun v h3 ⟨room, ev, r1, r2, o3, eh3, R3⟩ => ?_
  subst ev
  have S3 : Sys s 31 0 200 [] (fg 0 200) h3 := by rw [eh3]; exact S2.setR hs0
  have C : Cond st room := ⟨el29, es, r1, r2⟩
  repeat infer_instance
  refine ⟨rfl, ?_⟩
  repeat infer_instance
  refine ⟨by simp [line], ?_⟩
  refine v_mkF.mpr ⟨by simp [rangeL, line], ?_⟩
  repeat infer_instance
  refine wp_mono (mixed_spec R3 (by omega)) fun v h4 ⟨F, ev, lF, mF, R4, l4, f4⟩ => ?_
  subst ev
  have S4 := S3.frame (h' := h4) fun k h1 h2 => f4 k (by omega) (by have := S3.lt; omega)
  repeat infer_instance
  refine for_inv (fun t env h' => ∃ (e4 : Option LV) (bs : List LV) (d : Mat), env = [some (.scr ns), some (.ref 0), some (.lst (st.map LV.int)), some (.lst (F.map fun (k : Nat) => LV.int (k : Int))), e4, none, none, none, some (.ref s), some (.int room), none, none, none, none, none] ∧ Sys s 31 0 200 bs d h' ∧ Bd 31 0 200 d ∧ Kept 31 d bs ∧ Pth 31 (ED 31 0 200 bs) d ∧ bs.length = t ∧ Inv3 st room d ∧ (∀ k, (hk : k < 29) → k ∈ F.take t → d (k + 1) (k + 2) ≤ 0 - st[k]'(by omega))) _ 0 _ _ ⟨none, [], fg 0 200, rfl, S4, Bd.start (by omega), Kept.nil, pth_start, rfl, inv_start C, fun k hk hm => by simp at hm⟩ (fun _ _ _ _ => rfl) ?_ ?_
  · rintro t y env h5 hy ⟨e4, bs, d, ee, S5, B, K, Pt, lb, I, U⟩
    subst ee
    have hy' : (F.map fun (k : Nat) => LV.int (k : Int))[t]? = some y := hy
    rw [List.getElem?_map] at hy'
    obtain ⟨k, hk, ey⟩ := Option.map_eq_some_iff.mp hy'
    subst ey
    have htF := (List.getElem?_eq_some_iff.mp hk).1
    have hk29 : k < 29 := (mF k).mp (List.mem_of_getElem? hk)
    rw [Nat.zero_add] at lb U ⊢
    have est : (st.map LV.int)[k]? = some (.int (st[k]'(by omega))) := by rw [List.getElem?_map, List.getElem?_eq_getElem (by omega)]; rfl
    have hst := es (st[k]'(by omega)) (List.getElem_mem _)
    have i5 := S5.ins
    repeat infer_instance
    refine v_sub_sq sq_lst (L2.atI_nat est) ?_
    repeat infer_instance
    refine wp_mono (add_spec S5 B.cl (a := k + 1) (b := k + 2) (x := 0 - st[k]'(by omega)) (by omega) (by omega) (show bs.length < 16777216 by omega) rfl) fun v h6 ⟨ev, S6, n6, l6, f6⟩ => ?_
    have hlow := I.a (k + 2) (k + 1) (by omega) (by omega)
    have hsm := sm_succ (st := st) (k := k) (by omega)
    have hpos : 0 ≤ d (k + 2) (k + 1) + (0 - st[k]'(by omega)) := by
      simp only [p1, if_neg (show k + 1 ≠ 0 by omega), if_neg (show k + 2 ≠ 0 by omega), show k + 1 - 1 = k by omega, show k + 2 - 1 = k + 1 by omega] at hlow
      omega
    rw [decide_eq_true hpos] at ev
    subst ev
    repeat infer_instance
    refine dec_f rfl ?_
    repeat infer_instance
    refine ⟨_, _, _, rfl, S6 hpos, B.step (by omega) (by omega) hpos, K.app B.cl (by omega) (by omega) (by omega) (by omega), pth_app Pt (by omega) (by omega), by rw [List.length_append, lb]; rfl, inv_step C I hk29, fun j hj hm => ?_⟩
    rw [List.take_succ, hk, List.mem_append] at hm
    have g1 := B.cl.dg (k + 1) (by omega)
    have g2 := B.cl.dg (k + 2) (by omega)
    rcases hm with z | z
    · have := U j hj z
      unfold Mx.inc
      omega
    · have : j = k := by simpa using z
      subst this
      unfold Mx.inc
      omega
  · rintro env h5 ⟨e4, bs, d, ee, S5, B, K, Pt, lb, I, U⟩
    subst ee
    have elF : 0 + (F.map (fun (k : Nat) => LV.int (k : Int)), still (LV.lst (F.map fun (k : Nat) => LV.int (k : Int))) (F.map fun (k : Nat) => LV.int (k : Int))).fst.length = 29 := by
      rw [Nat.zero_add]
      show (F.map fun (k : Nat) => LV.int (k : Int)).length = 29
      rw [List.length_map, lF]
    rw [elF] at lb U
    have U' : ∀ k, (hk : k < 29) → d (k + 1) (k + 2) ≤ 0 - st[k]'(by omega) := fun k hk => U k hk (by rw [← lF, List.take_length]; exact (mF k).mpr hk)
    have up1 := from_one el29 B.cl U'
    have up29 : d 1 30 ≤ -(sm st 29) := up1 29 (by omega)
    have lo29 : sm st 0 - sm st 29 ≤ d 1 30 := I.a 1 30 (by omega) (by omega)
    have s0 : sm st 0 = 0 := by simp [sm]
    have m29 := sm_mono es el29 29 (by omega)
    have tot : st.sum = sm st 29 := by unfold sm; rw [← el29, List.take_length]
    clear elF U
    repeat infer_instance
    refine v_sum ls_lst (ints_id st) ?_
    rw [tot]
    have i5 := S5.ins
    repeat infer_instance
    refine wp_mono (add_spec S5 B.cl (a := 30) (b := 1) (x := sm st 29 - 1) (by omega) (by omega) (show bs.length < 16777216 by omega) rfl) fun v h6 ⟨ev, _, n6, _, _⟩ => ?_
    have hneg : ¬ 0 ≤ d 1 30 + (sm st 29 - 1) := by omega
    rw [decide_eq_false hneg] at ev
    subst ev
    have e6 := n6 hneg
    subst e6
    repeat infer_instance
    refine dec_f rfl ?_
    repeat infer_instance
    refine wp_mono (add_spec S5 B.cl (a := 30) (b := 1) (x := sm st 29 + room) (by omega) (by omega) (show bs.length < 16777216 by omega) rfl) fun v h7 ⟨ev, S7, _, _, _⟩ => ?_
    have hpos : 0 ≤ d 1 30 + (sm st 29 + room) := by omega
    rw [decide_eq_true hpos] at ev
    subst ev
    have S7 := S7 hpos
    have B7 := B.step (a := 30) (b := 1) (by omega) (by omega) hpos
    have K7 := K.app B.cl (a := 30) (b := 1) (x := sm st 29 + room) (by omega) (by omega) (by omega) (by omega)
    have P7 := pth_app (a := 30) (b := 1) (x := sm st 29 + room) Pt (by omega) (by omega)
    have I7 := inv_last C I
    have lb7 : (bs ++ [bnd 30 1 (sm st 29 + room)]).length = 30 := by rw [List.length_append, lb]; rfl
    have d7 : ∀ k, k ≤ 29 → inc d 30 1 (sm st 29 + room) 1 (k + 1) = 0 - sm st k := fun k hk => by
      have h1 := up1 k hk
      have h2 := I7.a 1 (k + 1) (by omega) (by omega)
      have h3 : inc d 30 1 (sm st 29 + room) 1 (k + 1) ≤ d 1 (k + 1) := by unfold Mx.inc; omega
      simp only [p1, if_neg (show k + 1 ≠ 0 by omega), show k + 1 - 1 = k by omega, if_neg (show (1 : Nat) ≠ 0 by omega), show (1 : Nat) - 1 = 0 by omega] at h2
      omega
    have q1 : inc d 30 1 (sm st 29 + room) 30 1 = sm st 29 + room := by
      have h1 := K7.le 30 1 (sm st 29 + room) (List.mem_append.mpr (.inr (List.mem_singleton.mpr rfl)))
      have h2 : sm st 29 + room - sm st 0 ≤ _ := I7.b 30 1 (by omega) (by omega)
      omega
    have q2 : inc d 30 1 (sm st 29 + room) 30 0 = 200 := by
      have h1 : _ ≤ (200 : Int) := B7.le 30 0 (by omega) (by omega)
      have h2 : 200 - sm st 29 + sm st 29 - 0 ≤ _ := I7.c 30 0 (by omega) (by omega)
      omega
    have q3 : inc d 30 1 (sm st 29 + room) 0 1 = 0 := by
      have h1 : _ ≤ (-0 : Int) := B7.le 0 1 (by omega) (by omega)
      have h2 : 0 - sm st 0 ≤ _ := I7.a 0 1 (by omega) (by omega)
      omega
    have q4 : inc d 30 1 (sm st 29 + room) 1 0 = 200 - sm st 29 := by
      have h1 := B7.cl.tr 1 0 30 (by omega) (by omega) (by omega)
      have h2 : 200 - sm st 29 + sm st 0 - 0 ≤ _ := I7.c 1 0 (by omega) (by omega)
      have h3 : inc d 30 1 (sm st 29 + room) 1 30 = 0 - sm st 29 := d7 29 (by omega)
      omega
    have q5 : inc d 30 1 (sm st 29 + room) 1 30 = 0 - sm st 29 := d7 29 (by omega)
    have hall : ∀ v ∈ (bs ++ [bnd 30 1 (sm st 29 + room)]) ++ ext 0 200 (31 - 1), ∃ (a b : Nat) (x : Int), v = bnd a b x ∧ a < 31 ∧ b < 31 ∧ inc d 30 1 (sm st 29 + room) a b ≤ x := fun v hv => all_le (v := v) B7 K7 (by omega) hv
    have up7 : ∀ i j, i < 31 → j < 31 → inc d 30 1 (sm st 29 + room) i j ≤ 2000000000000010 := fun i j hi hj => B7.up (by omega) (by omega) (by omega) hi hj
    have dn7 : ∀ i j, i < 31 → j < 31 → -2000000000000010 ≤ inc d 30 1 (sm st 29 + room) i j := fun i j hi hj => B7.dn (by omega) (by omega) (by omega) hi hj
    have dg7 := B7.cl.dg
    have S7' : Sys s 31 0 200 (bs ++ [bnd 30 1 (sm st 29 + room)]) (inc d 30 1 (sm st 29 + room)) h7 := S7
    clear S7
    generalize (inc d 30 1 (sm st 29 + room)) = e at *
    generalize (bs ++ [bnd 30 1 (sm st 29 + room)]) = bz at *
    have i7 := S7'.ins
    have hlt7 := S7'.lt
    repeat infer_instance
    refine dec_f rfl ?_
    repeat infer_instance
    refine ⟨by simp [rangeOk], ?_⟩
    generalize hL : rangeL 0 30 = L
    refine comp_rngL (n := 30) (by omega) hL (fun k => .int (sm st k)) (fun k hk => ?_) ?_
    · repeat infer_instance
      have ec : cut (st.map LV.int) none (some (k : Int)) = (st.take k).map LV.int := by
        rw [cut_take (by rw [List.length_map]; omega), List.map_take]
      rw [ec]
      refine v_sum ls_lst (ints_id _) ?_
      exact ⟨rfl, rfl⟩
    refine v_mkF.mpr ⟨by simp [line], ?_⟩
    repeat infer_instance
    refine ⟨by simp [rangeOk], ?_⟩
    generalize hL : rangeL 1 30 = L
    refine comp_rng1 (n := 30) (by omega) hL (fun k => .int (e 1 (k + 2))) (fun k hk => ?_) ?_
    · repeat infer_instance
      refine wp_mono (gap_spec S7' (i := 1) (j := k + 2) (by omega) (by omega) rfl) fun v h8 ⟨ev, eh⟩ => ?_
      subst ev
      subst eh
      exact ⟨rfl, rfl⟩
    refine v_mkF.mpr ⟨by simp [line], ?_⟩
    repeat infer_instance
    refine ⟨by simp [rangeOk], ?_⟩
    generalize hL : rangeL 1 30 = L
    refine comp_rng1 (n := 30) (by omega) hL (fun k => .int (0 - sm st (k + 1))) (fun k hk => ?_) ?_
    · repeat infer_instance
      refine v_sub_sq sq_lst (at_range (i := k + 1) (by omega)) ?_
      repeat infer_instance
      exact ⟨rfl, rfl⟩
    refine v_mkF.mpr ⟨by simp [line], ?_⟩
    repeat infer_instance
    have ok1 := lst_ok (n := 30 - 1) (g := fun k => e 1 (k + 2)) (fun j hj => by have := up7 1 (j + 2) (by omega) (by omega); have := dn7 1 (j + 2) (by omega) (by omega); show _ ∧ _; omega) (by omega)
    refine wp_mono (same_eq hS (congrArg LV.lst (List.map_congr_left fun j hj => by
      have hj' := List.mem_range.mp hj
      have : e 1 (j + 2) = 0 - sm st (j + 1) := d7 (j + 1) (by omega)
      rw [this])) ok1.1 ok1.2.1 ok1.2.2) fun v h8 ⟨ev, eh⟩ => ?_
    subst ev
    subst eh
    repeat infer_instance
    refine dec_f rfl ?_
    repeat infer_instance
    refine wp_mono (gap_spec S7' (i := 30) (j := 1) (by omega) (by omega) rfl) fun v h9 ⟨ev, eh⟩ => ?_
    subst ev
    subst eh
    repeat infer_instance
    refine wp_mono (gap_spec S7' (i := 30) (j := 0) (by omega) (by omega) rfl) fun v h8 ⟨ev, eh⟩ => ?_
    subst ev
    subst eh
    repeat infer_instance
    refine wp_mono (gap_spec S7' (i := 0) (j := 1) (by omega) (by omega) rfl) fun v h9 ⟨ev, eh⟩ => ?_
    subst ev
    subst eh
    repeat infer_instance
    refine wp_mono (gap_spec S7' (i := 1) (j := 0) (by omega) (by omega) rfl) fun v h8 ⟨ev, eh⟩ => ?_
    subst ev
    subst eh
    repeat infer_instance
    rw [q1, q2, q3, q4]
    have e30 : (10 : Nat) ^ 30 = 1000000000000000000000000000000 := by decide
    refine wp_mono (same_eq hS rfl ?_ (by show (100 + 1 + (100 + 1 + (100 + 1 + (100 + 1 + 0))) : Nat) ≤ 500000; omega) (by show max 0 (max 0 (max 0 (max 0 0))) + 1 < 20; omega)) fun v h9 ⟨ev, eh⟩ => ?_
    · show (decide ((sm st 29 + room).natAbs < 10 ^ 30) && (decide ((200 : Int).natAbs < 10 ^ 30) && (decide ((0 : Int).natAbs < 10 ^ 30) && (decide ((200 - sm st 29).natAbs < 10 ^ 30) && true)))) = true
      rw [decide_eq_true (by omega), decide_eq_true (by decide), decide_eq_true (by decide), decide_eq_true (by omega)]
      rfl
    subst ev
    subst eh
    repeat infer_instance
    refine dec_f rfl ?_
    repeat infer_instance
    refine wp_mono (ring_spec S7' (by omega) K7.ok (by omega) B7.cl hall P7 (a := 30) (b := 1) (x := sm st 29 - 1) (by omega) (by omega)) fun v h10 ⟨_, rb, l10, f10⟩ => ?_
    obtain ⟨lr, hchr, hlr, ev⟩ := rb (by omega)
    subst ev
    have S10 := S7'.frame (h' := h10) fun k h1 h2 => f10 k (by omega)
    have i10 := S10.ins
    have hlt10 := S10.lt
    repeat infer_instance
    refine wp_mono (chain_spec S10 (one := 1) (other := 30) (by omega) K7.ok (by omega) B7.cl hall P7 (by omega) (by omega) rfl) fun v h11 ⟨lc, hchc, hlc, ev, l11, f11⟩ => ?_
    have ev' : v = .lst lc := ev
    subst ev'
    have S11 := S10.frame (h' := h11) fun k h1 h2 => f11 k (by omega)
    have i11 := S11.ins
    have hlt11 := S11.lt
    obtain ⟨kc, wc, lc', elc⟩ := ch_first hchc (by omega)
    obtain ⟨ac, vc, elast⟩ := ch_last hchc (by rw [elc]; simp)
    have sumc := ch_sum hchc
    have sumr := ch_sum hchr
    have bx : (bnd 30 1 (sm st 29 - 1)).sm = true := bnd_sm (by omega) (by omega) (by omega) (by omega)
    have bxd : (bnd 30 1 (sm st 29 - 1)).dp < 20 := by show (1 : Nat) < 20; omega
    repeat infer_instance
    refine ⟨rfl, ?_⟩
    repeat infer_instance
    refine v_sub_sq sq_lst (show L2.atI (bnd 30 1 (sm st 29 - 1) :: lr) 0 = some (bnd 30 1 (sm st 29 - 1)) from L2.atI_nat (j := 0) rfl) ?_
    repeat infer_instance
    refine v_neD (y := bnd 30 1 (sm st 29 - 1)) (dat_sm _ 20 _ bx bxd) (dat_sm (bnd 30 1 (sm st 29 - 1)) 20 _ bx bxd) ?_
    rw [eqv_self bx]
    repeat infer_instance
    refine dec_f rfl ?_
    repeat infer_instance
    have walk : ∀ (l : List LV) {i j : Nat} {t : Int}, Ch 31 (ED 31 0 200 bz) j i t l → ∀ v ∈ l, ∃ a b x, v = bnd a b x := fun l i j t c v hv => by
      obtain ⟨a, b, x, e1, _⟩ := c.mem v hv
      exact ⟨a, b, x, e1⟩
    have hring : ∀ v ∈ bnd 30 1 (sm st 29 - 1) :: lr, ∃ a b x, v = bnd a b x := fun v hv => by
      rcases List.mem_cons.mp hv with z | z
      · exact ⟨_, _, _, z⟩
      · exact walk lr hchr v z
    have hchain : ∀ v ∈ lc, ∃ a b x, v = bnd a b x := walk lc hchc
    have thirds : ∀ (l : List LV) (hl : l.length ≤ 100) (hb : ∀ v ∈ l, ∃ a b x, v = bnd a b x) {env : Env} {h : Hh} {K : List LV → Hh → Prop} (he : 14 < env.length), K (l.map fun v => LV.int (th v)) h → wp (noX (compL (l, still (LV.lst l) l).snd (bindT P (callF P (m + 5)) (.nm 14)) (fun e => evConds P (callF P (m + 5)) .nil e) (fun e => evE P (callF P (m + 5)) (.sub (.loc 14) (.cst (.int 2))) e) (wipeE env [14]) (l, still (LV.lst l) l).fst [])) h K := by
      intro l hl hb env h K he done
      refine comp_inv (fun i acc h' => h' = h ∧ acc = (l.take i).map fun v => LV.int (th v)) _ 0 [] h ⟨rfl, by simp⟩ (fun _ _ _ _ => rfl) ?_ ?_
      · rintro j y acc h1 hy ⟨eh, ea⟩
        subst eh
        subst ea
        rw [Nat.zero_add]
        have hy' : l[j]? = some y := hy
        obtain ⟨a, b, x, ey⟩ := hb y (List.mem_of_getElem? hy')
        subst ey
        have hjl := (List.getElem?_eq_some_iff.mp hy').1
        refine wt_nm.mpr (wc_nil.mpr (dec_t rfl ?_))
        refine w_sub.mpr (w_loc.mpr ?_)
        have e1 : ((wipeE env [14]).set 14 (some (bnd a b x)))[14]? = some (some (bnd a b x)) := List.getElem?_set_self (by show 14 < (env.set 14 none).length; rw [List.length_set]; exact he)
        rw [e1]
        refine wpO_some.mpr (w_cst.mpr ?_)
        refine v_sub_sq (o := bnd a b x) rfl (show L2.atI [LV.int (a : Int), .int (b : Int), .int x] 2 = some (.int x) from rfl) ?_
        refine ⟨?_, rfl, ?_⟩
        · rw [List.length_map, List.length_take]
          show _ < 16777216
          omega
        · rw [List.take_succ, hy', List.map_append]
          rfl
      · rintro acc h1 ⟨eh, ea⟩
        subst eh
        subst ea
        have el : 0 + (l, still (LV.lst l) l).fst.length = l.length := by simp
        rw [el, List.take_length]
        exact done
    refine thirds _ (by simp; omega) hring (by simp) ?_
    refine v_mkF.mpr ⟨by simp [line]; omega, ?_⟩
    repeat infer_instance
    refine v_sum ls_lst (ints_map th _) ?_
    rw [List.map_cons, List.sum_cons, sumr, th_bnd, q5]
    repeat infer_instance
    refine dec_f (decide_eq_false (by omega)) ?_
    repeat infer_instance
    refine thirds _ (by omega) hchain (by simp) ?_
    refine v_mkF.mpr ⟨by simp [line]; omega, ?_⟩
    repeat infer_instance
    refine v_sum ls_lst (ints_map th _) ?_
    rw [sumc, q5]
    repeat infer_instance
    refine dec_f (decide_eq_false (by simp)) ?_
    repeat infer_instance
    refine v_sub_sq sq_lst (show L2.atI lc 0 = some (bnd 1 kc wc) from L2.atI_nat (j := 0) (by rw [elc]; rfl)) ?_
    unfold bnd
    repeat infer_instance
    refine dec_f rfl ?_
    repeat infer_instance
    refine v_sub_sq sq_lst (at_last elast) ?_
    unfold bnd
    repeat infer_instance
    refine dec_f rfl ?_
    have i11' := S11.ins
    repeat infer_instance
    refine wp_mono (len_spec S11) fun v h12 ⟨ev, eh⟩ => ?_
    subst ev
    subst eh
    rw [lb7]
    refine v_lenC (by omega) (by omega) ?_
    repeat infer_instance
    refine dec_f rfl ?_
    repeat infer_instance
    refine wp_mono (farthest_spec S11 (i := 1) (by omega) (by omega) rfl) fun v h13 ⟨ev, eh⟩ => ?_
    subst ev
    subst eh
    repeat infer_instance
    refine wp_mono (nearest_spec S11 (i := 30) (by omega) (by omega) rfl) fun v h12 ⟨ev, eh⟩ => ?_
    subst ev
    subst eh
    repeat infer_instance
    refine ⟨rfl, ?_⟩
    repeat infer_instance
    unfold farL nearL
    refine v_sub_sq sq_lst (at_range (i := 1) (by omega)) ?_
    repeat infer_instance
    refine v_sub_sq sq_lst (at_range (i := 30) (by omega)) ?_
    repeat infer_instance
    have g1 := dg7 1 (by omega)
    have g30 := dg7 30 (by omega)
    refine wp_mono (same_eq hS (by rw [show -e 0 1 + e 1 1 = 0 by omega, show e 30 0 - e 30 30 = 200 by omega]) ?_ (by show (100 + 1 + (100 + 1 + 0) : Nat) ≤ 500000; omega) (by show max 0 (max 0 0) + 1 < 20; omega)) fun v h13 ⟨ev, eh⟩ => ?_
    · show (decide ((-e 0 1 + e 1 1).natAbs < 10 ^ 30) && (decide ((e 30 0 - e 30 30).natAbs < 10 ^ 30) && true)) = true
      rw [decide_eq_true (by omega), decide_eq_true (by omega)]
      rfl
    subst ev
    subst eh
    repeat infer_instance
    refine dec_f rfl ?_
    repeat infer_instance
    refine v_sub_sq sq_lst (at_range (i := 30) (by omega)) ?_
    repeat infer_instance
    refine v_sub_sq sq_lst (at_range (i := 1) (by omega)) ?_
    repeat infer_instance
    refine v_sub_sq sq_lst (at_range (i := 30) (by omega)) ?_
    repeat infer_instance
    refine v_sub_sq sq_lst (at_range (i := 1) (by omega)) ?_
    repeat infer_instance
    refine v_mulL List.getElem?_concat_length (by decide) (by decide) (by show (1 * 2 : Nat) ≤ 16777216; decide) ?_
    repeat infer_instance
    refine wp_mono (same_eq hS ?_ ?_ (by show (100 + 1 + (100 + 1 + 0) : Nat) ≤ 500000; omega) (by show max 0 (max 0 0) + 1 < 20; omega)) fun v h12 ⟨ev, eh⟩ => ?_
    · show LV.lst [_, _] = LV.lst [_, _]
      rw [show -e 0 1 + e 30 1 - (-e 0 1 + e 1 1) = sm st 29 + room by omega, show e 30 0 - e 30 30 - (e 30 0 - e 30 1) = sm st 29 + room by omega]
    · show (decide ((-e 0 1 + e 30 1 - (-e 0 1 + e 1 1)).natAbs < 10 ^ 30) && (decide ((e 30 0 - e 30 30 - (e 30 0 - e 30 1)).natAbs < 10 ^ 30) && true)) = true
      rw [decide_eq_true (by omega), decide_eq_true (by omega)]
      rfl
    subst ev
    repeat infer_instance
    rfl
end
end Lk75

set_option Elab.async false
set_option linter.all false
set_option maxRecDepth 100000
set_option maxHeartbeats 4000000
namespace Lk75
section
open PySem PySem.Spec PyProof.Rows L2
def loose0 : List Str := ["_wall", "__name__", "System", "_law_source", "_law_draw", "_law_mixed", "_law_same"]
def loose : List Str := loose0
abbrev R : PySem.W.OpenRow := PySem.W.OpenLaw.row PySem.Challenge.rw_cutranks_k75_long_systems
abbrev hk : PySem.W.Hook := He.hookD 4 In.fa In.fn
def ob (s : PySem.W.SharedT) : He.AlD := He.obsDG 4 In.fa In.fn (HandSHeadRun.getT s)
theorem ob_eq (s : PySem.W.SharedT) : ob s = hk.obs s.abs := He.obsDG_eq (HandSHeadRun.getT_eq s)
theorem run (w : World) : HandSHeadRun.RunEq R (PySem.W.view R.prog [8]) hk ob 20000 loose w := by
  intro os
  kernel_rfl
end
end Lk75
open PySem PySem.W PySem.Calls PyProof.Rows
theorem Lk75.holds (N : Nat) (hr : L2.Room (2 * (N + 1)) callerA) (hp : ∀ ns : List Int, ns.length ≤ 63 → Mn.wp (Mn.callF Lk75.P (N + 1) "law" [.scr ns] []) [] fun v _ => v = .bl true) : PySem.Challenge.rw_cutranks_k75_long_systems.Holds := by
  w_on; o_law
  refine HandSHeadRun.head_any (r := OpenLaw.row PySem.Challenge.rw_cutranks_k75_long_systems) (q := view (OpenLaw.row PySem.Challenge.rw_cutranks_k75_long_systems).prog [8]) (H := Lk75.hk) (ob := Lk75.ob) (M := 20000) (loose := Lk75.loose) (d := HandSHeadRun.topDef (OpenLaw.row PySem.Challenge.rw_cutranks_k75_long_systems).prog 8) (kwd := []) Lk75.ob_eq
    (by kernel_rfl) (fun s => by kernel_rfl) Lk75.run (by kernel_rfl) (by kernel_rfl) (by kernel_rfl) (by rfl) (by first | assumption | decide +kernel) (by decide +kernel) ⟨rfl, rfl, rfl, rfl, rfl, by decide +kernel⟩ ?hw ?hc
  case hw => w_witness2
  case hc => exact Mn.law_walk (I := Lk75.In) (N := N) rfl (by kernel_rfl) hr (fun _ h ⟨K, KX, c⟩ => ⟨K, KX, Mn.facts_of c, fun d hd => He.SaysD.defs c hd⟩) (by kernel_rfl) (by decide) Lk75.wf Lk75.okz hp

theorem PySem.Challenge.cw_cutranks_k75_long_systems_holds : PySem.Challenge.rw_cutranks_k75_long_systems.Holds :=
  Lk75.holds 5 ⟨rfl, by decide, by decide⟩ fun ns _ => Lk75.law_spec ns
