import PyProof.Rows.All
import Wide.All
import OpenK.AllK
import Wide.FinOn
import PyProof.P3Statements
import PyProof.Claim2
import HandS.ForMost
import HandS.ForExc
import HandS.HeadHook2
import HandS.Walk
import KE.KDictKeyed
import HandS.TupAny
import HandS.IsInst
import HandS.Deep
import HandS.Wide
import PyProof.P3In
import HandS.Text
import HandS.Conv
import HandS.WordsDict
import HandS.CallSlots
import HandS.Defaults
import HandS.Property
import HandS.MakeKw
import HandS.ReCall
import HandS.Style
import HandS.Iter
import HandS.Zip
import HandS.StrMore
import KE.GoesMore
import KE.GoesEnum
import HandS.Codes
import HandS.DictComp
import PyProof.SeqRoads
import KE.KDictCopyH
import KE.GoesComp
import HandS.OwnEq
import HandS.ExcInit
import HandS.ClsMeth
import HandS.TryMany
import HandS.ExcField
import HandS.ExcIs
import KE.KExcIs
import PyProof.ReprRoads
import PyProof.CallFns
import PyProof.Rows.StrMeet
import HandS.HeadHook4
import HandS.Head2
import HandS.EndBits
import HandS.HeadEnd
import PySem.Challenge.RW_invitedin_k10_mends_made
section
set_option linter.all false
/-! Iv.Core: values by value, a store of cells, results. -/
namespace Iv
open PySem

/-- what nobody changes (any more), by value -/
inductive W where
  | non | bl (b : Bool) | int (i : Int) | str (x : Str)
  | tup (xs : List W) | lst (xs : List W)
  | dic (n : Bool) (kvs : List (W × W))
  | ins (c : Str) (fs : List (Str × W))
  | fn (x : Str) | ty (n : String)
  /-- the script: read alone -/
  | scr (ns : List Int)
instance : Inhabited W := ⟨.non⟩
/-- a value by value, or a cell of the store -/
inductive R where
  | w (w : W) | loc (n : Nat)
instance : Inhabited R := ⟨.w .non⟩
/-- what is changed: lists, dicts (n: the keys are tuples), records (dicts with written text keys that may hold cells), instances -/
inductive Cell where
  | lst (xs : List W) | lsr (xs : List R) | dic (n : Bool) (kvs : List (W × W)) | rcd (kvs : List (Str × R)) | ins (c : Str) (fs : List (Str × R))
instance : Inhabited Cell := ⟨.lst []⟩
abbrev Sto := List Cell
structure Exc where
  cls : Str
  fs : List (Str × W)
inductive Res (α : Type) where
  | ok (a : α) (st : Sto)
  | exc (x : Exc) (st : Sto)
  | bad
abbrev M (α : Type) := Sto → Res α
def ret {α : Type} (a : α) : M α := fun st => .ok a st
def fail {α : Type} : M α := fun _ => .bad
def bnd {α β : Type} (m : M α) (k : α → M β) : M β := fun st => match m st with
  | .ok a st' => k a st'
  | .exc x st' => .exc x st'
  | .bad => .bad
def ofO {α : Type} (o : Option α) : M α := match o with
  | some a => ret a
  | none => fail
def grd (b : Bool) : M Unit := if b then ret () else fail
/-- where nothing may be raised -/
def nox {α : Type} (m : M α) : M α := fun st => match m st with
  | .ok a st' => .ok a st'
  | _ => .bad
abbrev Env := List (Option R)

section
variable {α β γ : Type}
@[simp] theorem bnd_ret (a : α) (k : α → M β) : bnd (ret a) k = k a := rfl
@[simp] theorem bnd_fail (k : α → M β) : bnd fail k = fail := rfl
theorem bnd_bnd (m : M α) (k : α → M β) (l : β → M γ) : bnd (bnd m k) l = bnd m fun a => bnd (k a) l := by
  funext st
  unfold bnd
  cases m st <;> rfl
theorem bnd_ok {m : M α} {k : α → M β} {st st' : Sto} {a : α} (h : m st = .ok a st') : bnd m k st = k a st' := by unfold bnd; rw [h]
@[simp] theorem ofO_some (a : α) : ofO (some a) = ret a := rfl
@[simp] theorem ofO_none : (ofO none : M α) = fail := rfl
@[simp] theorem grd_true : grd true = ret () := rfl
@[simp] theorem grd_false : grd false = fail := rfl
theorem nox_ok {m : M α} {st st' : Sto} {a : α} (h : m st = .ok a st') : nox m st = .ok a st' := by unfold nox; rw [h]
@[simp] theorem nox_ret (a : α) : nox (ret a) = ret a := rfl
end

/-! ### plain data -/
mutual
def W.data : W → Option PyData
  | .non => some .none
  | .bl b => some (.bool b)
  | .int i => some (.int i)
  | .str x => some (.str x)
  | .tup xs => (W.datas xs).map .tuple
  | .lst xs => (W.datas xs).map .list
  | _ => none
def W.datas : List W → Option (List PyData)
  | [] => some []
  | x :: xs => match W.data x, W.datas xs with
    | some d, some ds => some (d :: ds)
    | _, _ => none
end

/-- plain data, of such a depth at most -/
def W.pl : Nat → W → Bool
  | 0, x => match x with
    | .non => true
    | .bl _ => true
    | .int _ => true
    | .str x => PyData.strOk x
    | _ => false
  | d + 1, x => match x with
    | .non => true
    | .bl _ => true
    | .int _ => true
    | .str x => PyData.strOk x
    | .tup xs => xs.all (W.pl d)
    | .lst xs => xs.all (W.pl d)
    | _ => false

/-! ### == of data -/
mutual
def W.eqv : W → W → Bool
  | .non, .non => true
  | .bl a, .bl b => a == b
  | .bl a, .int j => (if a then 1 else 0) == j
  | .int i, .bl b => i == (if b then 1 else 0)
  | .int i, .int j => i == j
  | .str x, .str y => x == y
  | .tup xs, .tup ys => W.eqvs xs ys
  | .lst xs, .lst ys => W.eqvs xs ys
  | _, _ => false
def W.eqvs : List W → List W → Bool
  | [], [] => true
  | x :: xs, y :: ys => W.eqv x y && W.eqvs xs ys
  | _, _ => false
end

/-! ### cells frozen: what a def hands back stands by value; cell 0 is the one that all share -/
def mapO {α β : Type} (f : α → Option β) : List α → Option (List β)
  | [] => some []
  | x :: xs => match f x, mapO f xs with
    | some y, some ys => some (y :: ys)
    | _, _ => none
def frzR (st : Sto) : Nat → R → Option W
  | 0, r => match r with
    | .w w => some w
    | .loc _ => none
  | k + 1, r => match r with
    | .w w => some w
    | .loc 0 => none
    | .loc (n + 1) => match st[n + 1]? with
      | some (.lst xs) => some (.lst xs)
      | some (.lsr xs) => (mapO (frzR st k) xs).map .lst
      | some (.dic b kvs) => some (.dic b kvs)
      | some (.rcd kvs) => (mapO (fun p : Str × R => (frzR st k p.2).map fun w => (W.str p.1, w)) kvs).map (.dic false)
      | some (.ins c fs) => (mapO (fun p : Str × R => (frzR st k p.2).map fun w => (p.1, w)) fs).map (.ins c)
      | none => none

/-- what may be handed to a def that has a store of its own -/
def pureR : R → Bool
  | .w _ => true
  | .loc 0 => true
  | _ => false
/-- a def's call with a store of its own: cell 0, a list, is shared, what comes back stands by value -/
def callP (F : List R → M R) (rs : List R) : M R := fun st => match st with
  | .lst xs :: rest => if rs.all pureR then (match F rs [.lst xs] with
    | .ok r (.lst ys :: more) => (match r with
      | .loc 0 => .ok (.loc 0) (.lst ys :: rest)
      | r => match frzR (.lst ys :: more) 6 r with
        | some x => .ok (.w x) (.lst ys :: rest)
        | none => .bad)
    | .exc x (.lst ys :: more) => .exc x (.lst ys :: rest)
    | _ => .bad) else .bad
  | _ => .bad

/-! ### environments -/
def wipeR (ρ : Env) : List Nat → Env
  | [] => ρ
  | v :: vs => (wipeR ρ vs).set v none

/-! ### statements: how they end -/
inductive Fl where
  | nx | rt (r : R) | bk | ct | ex (x : Exc)
abbrev SM := M (Fl × Env)
/-- go on with what an expression gives; what it raises is the statement's end -/
def bndS {α : Type} (ρ : Env) (m : M α) (k : α → SM) : SM := fun st => match m st with
  | .ok a st' => k a st'
  | .exc x st' => .ok (.ex x, ρ) st'
  | .bad => .bad

/-! ### keys of dicts -/
/-- texts and ints -/
def flatK : W → Bool
  | .str _ => true
  | .int _ => true
  | _ => false
def keyEq : W → W → Bool
  | .str x, .str y => decide (x = y)
  | .int x, .int y => decide (x = y)
  | _, _ => false
end Iv
end
section
set_option Elab.async false
set_option linter.all false
set_option maxRecDepth 100000
set_option maxHeartbeats 4000000
/-! Iv.Rep: how values and cells stand in the heap. -/
namespace Iv
open PySem PySem.Spec PyProof.Rows L2

/-! ### nested keys -/
mutual
def nkey : W → Option NestedKey
  | .non => some .none
  | .bl b => some (.num (if b then 1 else 0))
  | .int i => some (.num i)
  | .str x => some (.text x)
  | .tup xs => (nkeys xs).map .tup
  | _ => none
def nkeys : List W → Option (List NestedKey)
  | [] => some []
  | x :: xs => match nkey x, nkeys xs with
    | some k, some ks => some (k :: ks)
    | _, _ => none
end

/-- a dict's object with these entries: hash, key, value -/
def DN (a : Addr) (ents : List (Int × V × V)) : Heap → Prop := fun h => (a == sysModules) = false ∧ ents.length ≤ sizeLine ∧
  ∃ o es ep, h.get? a = some o ∧ o.ExactDict ∧ o.data = .dict es ep ∧ Paired (fun (e : Int × V × V) (q : DictEntry) => q.hash = e.1 ∧ RelV e.2.1 q.key ∧ RelV e.2.2 q.val) ents es.toList

section
variable (K : PySem.W.Frag) (w : World) (F : Addr → Prop) (H : Hp)
mutual
/-- the value stands so: F, the addresses of what is changed, are none of its own -/
inductive RV : W → V → Prop
  | non : RV .non .non
  | bl (b : Bool) : RV (.bl b) (.bl b)
  | int (i : Int) : RV (.int i) (.int i)
  | str (x : Str) : RV (.str x) (.str x)
  | fn (x : Str) : RV (.fn x) (.ref (He.ga K x))
  | tupK {a : Addr} {xs : List W} {us : List V} : (∃ (o : Obj) (its : Array Value) (n : Nat), K.lookup a = some o ∧ o.cls = .type "tuple" ∧ o.data = .seq its n ∧ its.size ≤ sizeLine ∧ Vals us its.toList) → RVs xs us → RV (.tup xs) (.ref a)
  | tup {a : Addr} {xs : List W} {us : List V} : Rd H a (.tup us) → ¬ F a → RVs xs us → RV (.tup xs) (.ref a)
  | ty (n : String) : RV (.ty n) (.ty n)
  | scr {a : Addr} {o : Obj} {ns : List Int} : H a = some (.frz o (.lst (ns.map V.int))) → ¬ F a → RV (.scr ns) (.ref a)
  | lst {a : Addr} {xs : List W} {us : List V} : H a = some (.lst us) → ¬ F a → RVs xs us → RV (.lst xs) (.ref a)
  | dicK {a : Addr} {o : Obj} {kvs : List (W × W)} {kus : List (Key × V)} : H a = some (.frz o (.dK kus)) → ¬ F a → RKs kvs kus → RV (.dic false kvs) (.ref a)
  | dicN {a : Addr} {o : Obj} {kvs : List (W × W)} {ents : List (Int × V × V)} : H a = some (.frz o (.ext (DN a ents))) → ¬ F a → REs kvs ents → RV (.dic true kvs) (.ref a)
  | ins {a dx : Addr} {c : Str} {fs : List (Str × W)} {us : List (Str × V)} : H a = some (.ins (He.ga K c) dx us) → ¬ F a → RFs fs us → RV (.ins c fs) (.ref a)
inductive RVs : List W → List V → Prop
  | nil : RVs [] []
  | cons {x : W} {xs : List W} {v : V} {vs : List V} : RV x v → RVs xs vs → RVs (x :: xs) (v :: vs)
/-- text and int keys -/
inductive RKs : List (W × W) → List (Key × V) → Prop
  | nil : RKs [] []
  | str {x : Str} {y : W} {r : List (W × W)} {v : V} {us : List (Key × V)} : RV y v → RKs r us → RKs ((.str x, y) :: r) ((.inr x, v) :: us)
  | int {i : Int} {y : W} {r : List (W × W)} {v : V} {us : List (Key × V)} : RV y v → RKs r us → RKs ((.int i, y) :: r) ((.inl i, v) :: us)
/-- tuple keys -/
inductive REs : List (W × W) → List (Int × V × V) → Prop
  | nil : REs [] []
  | cons {xs : List W} {ks : List NestedKey} {y : W} {r : List (W × W)} {a : Addr} {v : V} {us : List (Int × V × V)} : nkeys xs = some ks → (NestedKey.tup ks).depth ≤ 8 → (∀ q ∈ r, nkey q.1 ≠ some (.tup ks)) → RV (.tup xs) (.ref a) → RV y v → REs r us → REs ((.tup xs, y) :: r) (((NestedKey.tup ks).hash w, .ref a, v) :: us)
inductive RFs : List (Str × W) → List (Str × V) → Prop
  | nil : RFs [] []
  | cons {f : Str} {x : W} {r : List (Str × W)} {v : V} {us : List (Str × V)} : RV x v → RFs r us → RFs ((f, x) :: r) ((f, v) :: us)
end
end

/-- what stands by value stands still -/
structure Kp (F : Addr → Prop) (H : Hp) (F' : Addr → Prop) (H' : Hp) : Prop where
  rd : ∀ a u, Rd H a u → ¬ F a → Rd H' a u
  ins : ∀ a C dx fs, H a = some (.ins C dx fs) → ¬ F a → H' a = some (.ins C dx fs)
  lst : ∀ a us, H a = some (.lst us) → ¬ F a → H' a = some (.lst us)
  scr : ∀ a o u, H a = some (.frz o u) → ¬ F a → H' a = some (.frz o u)
  nf : ∀ a o, H a = some o → ¬ F a → ¬ F' a
theorem Kp.nfr {F F' : Addr → Prop} {H H' : Hp} (k : Kp F H F' H') {a : Addr} {u : HO} (r : Rd H a u) (h : ¬ F a) : ¬ F' a := by
  rcases r with r | ⟨o, r⟩
  · exact k.nf a _ r h
  · exact k.nf a _ r h
section
variable {K : PySem.W.Frag} {w : World} {F F' : Addr → Prop} {H H' : Hp}
mutual
theorem RV.mono (k : Kp F H F' H') : ∀ {x : W} {v : V}, RV K w F H x v → RV K w F' H' x v
  | _, _, .non => .non
  | _, _, .bl b => .bl b
  | _, _, .int i => .int i
  | _, _, .str x => .str x
  | _, _, .fn x => .fn x
  | _, _, .tupK a b => .tupK a (RVs.mono k b)
  | _, _, .tup a b c => .tup (k.rd _ _ a b) (k.nfr a b) (RVs.mono k c)
  | _, _, .ty n => .ty n
  | _, _, .scr a b => .scr (k.scr _ _ _ a b) (k.nf _ _ a b)
  | _, _, .lst a b c => .lst (k.lst _ _ a b) (k.nf _ _ a b) (RVs.mono k c)
  | _, _, .dicK a b c => .dicK (k.scr _ _ _ a b) (k.nf _ _ a b) (RKs.mono k c)
  | _, _, .dicN a b c => .dicN (k.scr _ _ _ a b) (k.nf _ _ a b) (REs.mono k c)
  | _, _, .ins a b c => .ins (k.ins _ _ _ _ a b) (k.nf _ _ a b) (RFs.mono k c)
theorem RVs.mono (k : Kp F H F' H') : ∀ {xs : List W} {vs : List V}, RVs K w F H xs vs → RVs K w F' H' xs vs
  | _, _, .nil => .nil
  | _, _, .cons a b => .cons (RV.mono k a) (RVs.mono k b)
theorem RKs.mono (k : Kp F H F' H') : ∀ {xs : List (W × W)} {vs : List (Key × V)}, RKs K w F H xs vs → RKs K w F' H' xs vs
  | _, _, .nil => .nil
  | _, _, .str a b => .str (RV.mono k a) (RKs.mono k b)
  | _, _, .int a b => .int (RV.mono k a) (RKs.mono k b)
theorem REs.mono (k : Kp F H F' H') : ∀ {xs : List (W × W)} {vs : List (Int × V × V)}, REs K w F H xs vs → REs K w F' H' xs vs
  | _, _, .nil => .nil
  | _, _, .cons e e2 e3 a b c => .cons e e2 e3 (RV.mono k a) (RV.mono k b) (REs.mono k c)
theorem RFs.mono (k : Kp F H F' H') : ∀ {xs : List (Str × W)} {vs : List (Str × V)}, RFs K w F H xs vs → RFs K w F' H' xs vs
  | _, _, .nil => .nil
  | _, _, .cons a b => .cons (RV.mono k a) (RFs.mono k b)
end
theorem RVs.length : ∀ {xs : List W} {vs : List V}, RVs K w F H xs vs → xs.length = vs.length
  | _, _, .nil => rfl
  | _, _, .cons _ b => by simp [RVs.length b]
theorem RVs.get : ∀ {xs : List W} {vs : List V} {i : Nat} {v : V}, RVs K w F H xs vs → vs[i]? = some v → ∃ x, xs[i]? = some x ∧ RV K w F H x v
  | _, _, _, _, .nil, e => by simp at e
  | _, _, 0, _, .cons a _, e => by simp at e; subst e; exact ⟨_, rfl, a⟩
  | _, _, i + 1, v, .cons _ b, e => by
    obtain ⟨x, h1, h2⟩ := RVs.get (i := i) (v := v) b (by simpa using e)
    exact ⟨x, by simpa using h1, h2⟩
theorem RVs.get' : ∀ {xs : List W} {vs : List V} {i : Nat} {x : W}, RVs K w F H xs vs → xs[i]? = some x → ∃ v, vs[i]? = some v ∧ RV K w F H x v
  | _, _, _, _, .nil, e => by simp at e
  | _, _, 0, _, .cons a _, e => by simp at e; subst e; exact ⟨_, rfl, a⟩
  | _, _, i + 1, v, .cons _ b, e => by
    obtain ⟨x, h1, h2⟩ := RVs.get' (i := i) (x := v) b (by simpa using e)
    exact ⟨x, by simpa using h1, h2⟩
theorem RVs.append : ∀ {xs ys : List W} {us vs : List V}, RVs K w F H xs us → RVs K w F H ys vs → RVs K w F H (xs ++ ys) (us ++ vs)
  | _, _, _, _, .nil, s => s
  | _, _, _, _, .cons r t, s => .cons r (RVs.append t s)
theorem RVs.take : ∀ {xs : List W} {us : List V} (n : Nat), RVs K w F H xs us → RVs K w F H (xs.take n) (us.take n)
  | _, _, 0, _ => .nil
  | _, _, _ + 1, .nil => .nil
  | _, _, n + 1, .cons r t => .cons r (RVs.take n t)
theorem RVs.drop : ∀ {xs : List W} {us : List V} (n : Nat), RVs K w F H xs us → RVs K w F H (xs.drop n) (us.drop n)
  | _, _, 0, r => r
  | _, _, _ + 1, .nil => .nil
  | _, _, n + 1, .cons _ t => RVs.drop n t
theorem RVs.set {x : W} {v : V} (r : RV K w F H x v) : ∀ {xs : List W} {us : List V} (i : Nat), RVs K w F H xs us → RVs K w F H (xs.set i x) (us.set i v)
  | _, _, _, .nil => .nil
  | _, _, 0, .cons _ t => .cons r t
  | _, _, i + 1, .cons q t => .cons q (RVs.set r i t)
theorem RVs.reverse : ∀ {xs : List W} {us : List V}, RVs K w F H xs us → RVs K w F H xs.reverse us.reverse
  | _, _, .nil => .nil
  | _, _, .cons a b => by
    rw [List.reverse_cons, List.reverse_cons]
    exact RVs.append (RVs.reverse b) (.cons a .nil)
theorem RVs.ints : ∀ ns : List Int, RVs K w F H (ns.map W.int) (ns.map V.int)
  | [] => .nil
  | n :: ns => .cons (.int n) (RVs.ints ns)
end

/-! ### the store -/
/-- F: what is changed, here (μ) or around (Z) -/
def Fb (Z : Addr → Prop) (μ : List Addr) : Addr → Prop := fun a => a ∈ μ ∨ Z a
section
variable (K : PySem.W.Frag) (w : World) (F : Addr → Prop) (μ : List Addr) (H : Hp)
inductive RR : R → V → Prop
  | w {x : W} {v : V} : RV K w F H x v → RR (.w x) v
  | loc {n : Nat} {a : Addr} : μ[n]? = some a → RR (.loc n) (.ref a)
inductive RRs : List R → List V → Prop
  | nil : RRs [] []
  | cons {x : R} {xs : List R} {v : V} {vs : List V} : RR K w F μ H x v → RRs xs vs → RRs (x :: xs) (v :: vs)
inductive RRd : List (Str × R) → List (Key × V) → Prop
  | nil : RRd [] []
  | cons {f : Str} {x : R} {r : List (Str × R)} {v : V} {us : List (Key × V)} : RR K w F μ H x v → RRd r us → RRd ((f, x) :: r) ((.inr f, v) :: us)
inductive RRf : List (Str × R) → List (Str × V) → Prop
  | nil : RRf [] []
  | cons {f : Str} {x : R} {r : List (Str × R)} {v : V} {us : List (Str × V)} : RR K w F μ H x v → RRf r us → RRf ((f, x) :: r) ((f, v) :: us)
inductive CellOk (a : Addr) : Cell → Prop
  | lst {xs : List W} {us : List V} : H a = some (.lst us) → RVs K w F H xs us → CellOk a (.lst xs)
  | lsr {xs : List R} {us : List V} : H a = some (.lst us) → RRs K w F μ H xs us → CellOk a (.lsr xs)
  | dicK {kvs : List (W × W)} {kus : List (Key × V)} : H a = some (.dK kus) → RKs K w F H kvs kus → CellOk a (.dic false kvs)
  | dicN {kvs : List (W × W)} {ents : List (Int × V × V)} : H a = some (.ext (DN a ents)) → REs K w F H kvs ents → CellOk a (.dic true kvs)
  | rcd {fs : List (Str × R)} {kus : List (Key × V)} : H a = some (.dK kus) → RRd K w F μ H fs kus → CellOk a (.rcd fs)
  | ins {c : Str} {dx : Addr} {fs : List (Str × R)} {us : List (Str × V)} : H a = some (.ins (He.ga K c) dx us) → RRf K w F μ H fs us → CellOk a (.ins c fs)
end
structure Cells (K : PySem.W.Frag) (w : World) (Z : Addr → Prop) (μ : List Addr) (st : Sto) (H : Hp) : Prop where
  len : μ.length = st.length
  nd : μ.Nodup
  dis : ∀ a ∈ μ, ¬ Z a
  there : ∀ a, Z a → ∃ o, H a = some o
  ok : ∀ (n : Nat) (c : Cell) (a : Addr), st[n]? = some c → μ[n]? = some a → CellOk K w (Fb Z μ) μ H a c
/-- from (μ, H) to (μ', H'): new cells are new, all but the cells is kept -/
structure Nx (μ : List Addr) (H : Hp) (μ' : List Addr) (H' : Hp) : Prop where
  pre : ∃ ν, μ' = μ ++ ν ∧ ∀ a ∈ ν, H a = none ∧ a ∉ μ
  fr : ∀ a o, H a = some o → a ∉ μ → H' a = some o
theorem Nx.refl (μ : List Addr) (H : Hp) : Nx μ H μ H := ⟨⟨[], by simp⟩, fun _ _ h _ => h⟩
theorem Nx.at {μ μ' : List Addr} {H H' : Hp} (x : Nx μ H μ' H') {n : Nat} {a : Addr} (h : μ[n]? = some a) : μ'[n]? = some a := by
  obtain ⟨ν, rfl, _⟩ := x.pre
  rw [List.getElem?_append_left (List.getElem?_eq_some_iff.mp h).1]
  exact h
theorem Nx.nf {Z : Addr → Prop} {μ μ' : List Addr} {H H' : Hp} (x : Nx μ H μ' H') {a : Addr} {o : HO} (e : H a = some o) (h : ¬ Fb Z μ a) : ¬ Fb Z μ' a := by
  obtain ⟨ν, rfl, n⟩ := x.pre
  rintro (q | q)
  · rcases List.mem_append.mp q with q | q
    · exact h (.inl q)
    · rw [(n a q).1] at e; cases e
  · exact h (.inr q)
theorem Nx.kp {Z : Addr → Prop} {μ μ' : List Addr} {H H' : Hp} (x : Nx μ H μ' H') : Kp (Fb Z μ) H (Fb Z μ') H' where
  rd := fun a u r h => by
    have nm : a ∉ μ := fun q => h (.inl q)
    rcases r with r | ⟨o, r⟩
    · exact .inl (x.fr a _ r nm)
    · exact .inr ⟨o, x.fr a _ r nm⟩
  ins := fun a C dx fs e h => x.fr a _ e fun q => h (.inl q)
  lst := fun a us e h => x.fr a _ e fun q => h (.inl q)
  scr := fun a o us e h => x.fr a _ e fun q => h (.inl q)
  nf := fun a o e h => x.nf e h
theorem Nx.trans {μ μ1 μ2 : List Addr} {H H1 H2 : Hp} (x : Nx μ H μ1 H1) (y : Nx μ1 H1 μ2 H2) : Nx μ H μ2 H2 := by
  obtain ⟨ν, rfl, n⟩ := x.pre
  obtain ⟨ν', rfl, n'⟩ := y.pre
  refine ⟨⟨ν ++ ν', by simp, fun a ha => ?_⟩, fun a o e h => y.fr a o (x.fr a o e h) fun q => ?_⟩
  · rcases List.mem_append.mp ha with q | q
    · exact n a q
    · obtain ⟨h1, h2⟩ := n' a q
      have hm : a ∉ μ := fun z => h2 (List.mem_append_left _ z)
      refine ⟨?_, hm⟩
      cases e : H a with
      | none => rfl
      | some o =>
        have := x.fr a o e hm
        rw [h1] at this; cases this
  · rcases List.mem_append.mp q with q | q
    · exact h q
    · rw [(n a q).1] at e; cases e

section
variable {K : PySem.W.Frag} {w : World} {Z F F' : Addr → Prop} {μ μ' : List Addr} {H H' : Hp} {st : Sto}
theorem RR.mono (k : Kp F H F' H') (hμ : ∀ (n : Nat) (a : Addr), μ[n]? = some a → μ'[n]? = some a) : ∀ {x : R} {v : V}, RR K w F μ H x v → RR K w F' μ' H' x v
  | _, _, .w a => .w (a.mono k)
  | _, _, .loc a => .loc (hμ _ _ a)
theorem RRs.mono (k : Kp F H F' H') (hμ : ∀ (n : Nat) (a : Addr), μ[n]? = some a → μ'[n]? = some a) : ∀ {x : List R} {v : List V}, RRs K w F μ H x v → RRs K w F' μ' H' x v
  | _, _, .nil => .nil
  | _, _, .cons a b => .cons (a.mono k hμ) (RRs.mono k hμ b)
theorem RRd.mono (k : Kp F H F' H') (hμ : ∀ (n : Nat) (a : Addr), μ[n]? = some a → μ'[n]? = some a) : ∀ {x : List (Str × R)} {v : List (Key × V)}, RRd K w F μ H x v → RRd K w F' μ' H' x v
  | _, _, .nil => .nil
  | _, _, .cons a b => .cons (a.mono k hμ) (RRd.mono k hμ b)
theorem RRf.mono (k : Kp F H F' H') (hμ : ∀ (n : Nat) (a : Addr), μ[n]? = some a → μ'[n]? = some a) : ∀ {x : List (Str × R)} {v : List (Str × V)}, RRf K w F μ H x v → RRf K w F' μ' H' x v
  | _, _, .nil => .nil
  | _, _, .cons a b => .cons (a.mono k hμ) (RRf.mono k hμ b)
theorem CellOk.mono (k : Kp F H F' H') (hμ : ∀ (n : Nat) (a : Addr), μ[n]? = some a → μ'[n]? = some a) {a : Addr} (e : H' a = H a) : ∀ {c : Cell}, CellOk K w F μ H a c → CellOk K w F' μ' H' a c
  | _, .lst h r => .lst (e.trans h) (r.mono k)
  | _, .lsr h r => .lsr (e.trans h) (r.mono k hμ)
  | _, .dicK h r => .dicK (e.trans h) (r.mono k)
  | _, .dicN h r => .dicN (e.trans h) (r.mono k)
  | _, .rcd h r => .rcd (e.trans h) (r.mono k hμ)
  | _, .ins h r => .ins (e.trans h) (r.mono k hμ)
theorem CellOk.at {a : Addr} : ∀ {c : Cell}, CellOk K w F μ H a c → ∃ o, H a = some o
  | _, .lst h _ => ⟨_, h⟩
  | _, .lsr h _ => ⟨_, h⟩
  | _, .dicK h _ => ⟨_, h⟩
  | _, .dicN h _ => ⟨_, h⟩
  | _, .rcd h _ => ⟨_, h⟩
  | _, .ins h _ => ⟨_, h⟩
theorem RR.nx (x : Nx μ H μ' H') {r : R} {v : V} (h : RR K w (Fb Z μ) μ H r v) : RR K w (Fb Z μ') μ' H' r v := h.mono x.kp fun _ _ => x.at
theorem RV.nx (x : Nx μ H μ' H') {r : W} {v : V} (h : RV K w (Fb Z μ) H r v) : RV K w (Fb Z μ') H' r v := h.mono x.kp
theorem RVs.nx (x : Nx μ H μ' H') {r : List W} {v : List V} (h : RVs K w (Fb Z μ) H r v) : RVs K w (Fb Z μ') H' r v := h.mono x.kp
theorem RRs.nx (x : Nx μ H μ' H') {r : List R} {v : List V} (h : RRs K w (Fb Z μ) μ H r v) : RRs K w (Fb Z μ') μ' H' r v := h.mono x.kp fun _ _ => x.at
theorem Cells.at (c : Cells K w Z μ st H) {n : Nat} {ce : Cell} (h : st[n]? = some ce) : ∃ a, μ[n]? = some a ∧ CellOk K w (Fb Z μ) μ H a ce := by
  have hl : n < μ.length := by rw [c.len]; exact (List.getElem?_eq_some_iff.mp h).1
  exact ⟨μ[n], by simp [hl], c.ok n ce _ h (by simp [hl])⟩
theorem Cells.tracked (c : Cells K w Z μ st H) {a : Addr} (h : a ∈ μ) : ∃ o, H a = some o := by
  obtain ⟨n, hn, e⟩ := List.mem_iff_getElem.mp h
  have hl : n < st.length := by rw [← c.len]; exact hn
  exact (c.ok n st[n] a (by simp [hl]) (by simp [hn, e])).at
/-- a new object that is no cell -/
theorem Nx.new {p : Addr} {o : HO} (hp : H p = none) : Nx μ H μ (upd H p o) := ⟨⟨[], by simp⟩, fun a u e _ => by rw [upd_ne (ne_of_none e hp)]; exact e⟩
theorem Cells.new (c : Cells K w Z μ st H) {p : Addr} {o : HO} (hp : H p = none) : Cells K w Z μ st (upd H p o) where
  len := c.len
  nd := c.nd
  dis := c.dis
  there := fun a z => by
    obtain ⟨u, e⟩ := c.there a z
    exact ⟨u, by rw [upd_ne (ne_of_none e hp)]; exact e⟩
  ok := fun n ce a h1 h2 => by
    obtain ⟨u, e⟩ := (c.ok n ce a h1 h2).at
    exact (c.ok n ce a h1 h2).mono (Nx.new hp).kp (fun _ _ h => h) (upd_ne (ne_of_none e hp))
theorem Cells.fresh (c : Cells K w Z μ st H) {p : Addr} (hp : H p = none) : ¬ Fb Z μ p := by
  rintro (q | q)
  · obtain ⟨o, e⟩ := c.tracked q
    rw [hp] at e; cases e
  · obtain ⟨o, e⟩ := c.there p q
    rw [hp] at e; cases e
/-- a new cell -/
theorem Nx.newCell {p : Addr} {o : HO} (c : Cells K w Z μ st H) (hp : H p = none) : Nx μ H (μ ++ [p]) (upd H p o) :=
  ⟨⟨[p], rfl, fun a ha => by
    have e : a = p := by simpa using ha
    subst e
    exact ⟨hp, fun q => c.fresh hp (.inl q)⟩⟩, fun a u e _ => by rw [upd_ne (ne_of_none e hp)]; exact e⟩
theorem Cells.newCell (c : Cells K w Z μ st H) {p : Addr} {o : HO} {ce : Cell} (hp : H p = none) (hc : CellOk K w (Fb Z (μ ++ [p])) (μ ++ [p]) (upd H p o) p ce) : Cells K w Z (μ ++ [p]) (st ++ [ce]) (upd H p o) where
  len := by simp [c.len]
  nd := by
    rw [List.nodup_append]
    refine ⟨c.nd, by simp, fun a ha b hb e => ?_⟩
    have e' : b = p := by simpa using hb
    subst e' e
    exact c.fresh hp (.inl ha)
  dis := fun a ha z => by
    rcases List.mem_append.mp ha with q | q
    · exact c.dis a q z
    · have e' : a = p := by simpa using q
      subst e'
      exact c.fresh hp (.inr z)
  there := fun a z => by
    obtain ⟨u, e⟩ := c.there a z
    exact ⟨u, by rw [upd_ne (ne_of_none e hp)]; exact e⟩
  ok := fun n ce' a h1 h2 => by
    by_cases hn : n < st.length
    · rw [List.getElem?_append_left hn] at h1
      rw [List.getElem?_append_left (by rw [c.len]; exact hn)] at h2
      obtain ⟨u, e⟩ := (c.ok n ce' a h1 h2).at
      exact (c.ok n ce' a h1 h2).mono (Nx.newCell c hp).kp (fun _ _ h => (Nx.newCell (o := o) c hp).at h) (upd_ne (ne_of_none e hp))
    · have hlt := (List.getElem?_eq_some_iff.mp h1).1
      simp only [List.length_append, List.length_cons, List.length_nil] at hlt
      have en : n = st.length := by omega
      subst en
      rw [List.getElem?_append_right (by simp)] at h1
      rw [List.getElem?_append_right (by rw [c.len]; exact Nat.le_refl _), c.len] at h2
      simp at h1 h2
      subst h1 h2
      exact hc
/-- a cell is written -/
theorem Nx.write {n : Nat} {p : Addr} {o : HO} (h : μ[n]? = some p) : Nx μ H μ (upd H p o) := ⟨⟨[], by simp⟩, fun a u e q => by
  have : a ≠ p := fun z => q (z ▸ List.mem_of_getElem? h)
  rw [upd_ne this]; exact e⟩
theorem Cells.write (c : Cells K w Z μ st H) {n : Nat} {p : Addr} {o : HO} {ce : Cell} (h : μ[n]? = some p) (hc : CellOk K w (Fb Z μ) μ (upd H p o) p ce) : Cells K w Z μ (st.set n ce) (upd H p o) where
  len := by simp [c.len]
  nd := c.nd
  dis := c.dis
  there := fun a z => by
    obtain ⟨u, e⟩ := c.there a z
    have : a ≠ p := fun q => c.dis p (List.mem_of_getElem? h) (q ▸ z)
    exact ⟨u, by rw [upd_ne this]; exact e⟩
  ok := fun m ce' a h1 h2 => by
    by_cases hm : n = m
    · subst hm
      rw [h] at h2; cases h2
      rw [List.getElem?_set_self (by simpa using (List.getElem?_eq_some_iff.mp h1).1)] at h1
      cases h1
      exact hc
    · rw [List.getElem?_set_ne hm] at h1
      have : a ≠ p := fun q => by
        subst q
        exact hm ((List.getElem?_inj (List.getElem?_eq_some_iff.mp h).1 c.nd).mp (h.trans h2.symm))
      exact (c.ok m ce' a h1 h2).mono (Nx.write h).kp (fun _ _ z => z) (upd_ne this)
/-- slots -/
structure RS (K : PySem.W.Frag) (w : World) (F : Addr → Prop) (μ : List Addr) (H : Hp) (ρ : Env) (σ : L2.St) : Prop where
  len : ρ.length = σ.length
  at_ : ∀ (i : Nat) (r : R), ρ[i]? = some (some r) → ∃ v, σ[i]? = some (some v) ∧ RR K w F μ H r v
theorem RS.nx (x : Nx μ H μ' H') {ρ : Env} {σ : L2.St} (h : RS K w (Fb Z μ) μ H ρ σ) : RS K w (Fb Z μ') μ' H' ρ σ :=
  ⟨h.len, fun i r e => let ⟨v, e', q⟩ := h.at_ i r e; ⟨v, e', q.nx x⟩⟩
theorem RS.set {ρ : Env} {σ : L2.St} (h : RS K w F μ H ρ σ) (i : Nat) {r : R} {v : V} (q : RR K w F μ H r v) : RS K w F μ H (ρ.set i (some r)) (σ.set i (some v)) := by
  refine ⟨by simp [h.len], fun j r' e => ?_⟩
  by_cases hj : i = j
  · subst hj
    by_cases hi : i < ρ.length
    · rw [List.getElem?_set_self hi] at e
      cases e
      exact ⟨v, by rw [List.getElem?_set_self (by rw [← h.len]; exact hi)], q⟩
    · rw [List.getElem?_eq_none (by simpa using hi)] at e; cases e
  · rw [List.getElem?_set_ne hj] at e ⊢
    exact h.at_ j r' e
theorem RS.unset {ρ : Env} {σ : L2.St} (h : RS K w F μ H ρ σ) (i : Nat) : RS K w F μ H (ρ.set i none) (σ.set i none) := by
  refine ⟨by simp [h.len], fun j r' e => ?_⟩
  by_cases hj : i = j
  · subst hj
    by_cases hi : i < ρ.length
    · rw [List.getElem?_set_self hi] at e
      cases e
    · rw [List.getElem?_eq_none (by simpa using hi)] at e; cases e
  · rw [List.getElem?_set_ne hj] at e ⊢
    exact h.at_ j r' e
theorem RS.wipe {ρ : Env} {σ : L2.St} (h : RS K w F μ H ρ σ) : ∀ vs : List Nat, RS K w F μ H (wipeR ρ vs) (L2.wipe σ vs)
  | [] => h
  | v :: vs => (RS.wipe h vs).unset v
end

/-! ### readings -/
/-- an exception: its class, its fields in its own dict -/
inductive RX (K : PySem.W.Frag) (w : World) (F : Addr → Prop) (H : Hp) (x : Exc) : Value → Option Addr → Prop
  | mk {d : Addr} {us : List (Str × V)} : H d = some (.xd us) → ¬ F d → (∀ f y, x.fs.lookup f = some y → ∃ v, us.lookup f = some v ∧ RV K w F H y v) → RX K w F H x (.ref (He.ga K x.cls)) (some d)
  | no : x.fs = [] → RX K w F H x (.ref (He.ga K x.cls)) none
section
variable (K : PySem.W.Frag) (w : World) (E : WX)
/-- what comes of r, begun at (μ, H): with a value k holds, with an exception E -/
def Sat {α : Type} (Z : Addr → Prop) (μ : List Addr) (H : Hp) (σ : L2.St) (r : Res α) (k : α → Sto → List Addr → Hp → Prop) : Prop := match r with
  | .ok a st' => ∀ μ' H', Nx μ H μ' H' → Cells K w Z μ' st' H' → k a st' μ' H'
  | .exc x st' => ∀ μ' H' cls d, Nx μ H μ' H' → Cells K w Z μ' st' H' → RX K w (Fb Z μ') H' x cls d → E cls d σ H'
  | .bad => False
/-- an expression's -/
def rd (f : Env → M R) : TE := fun σ H Q => ∃ Z μ st ρ, Cells K w Z μ st H ∧ RS K w (Fb Z μ) μ H ρ σ ∧
  Sat K w E Z μ H σ (f ρ st) fun r _ μ' H' => ∀ v, RR K w (Fb Z μ') μ' H' r v → Q v H'
/-- a test's -/
def rdT (f : Env → M Bool) : TT := fun σ H Q => ∃ Z μ st ρ, Cells K w Z μ st H ∧ RS K w (Fb Z μ) μ H ρ σ ∧
  Sat K w E Z μ H σ (f ρ st) fun b _ _ H' => Q b H'
/-- arguments' -/
def rdA (f : Env → M (List R)) : TA := fun σ H Q => ∃ Z μ st ρ, Cells K w Z μ st H ∧ RS K w (Fb Z μ) μ H ρ σ ∧
  Sat K w E Z μ H σ (f ρ st) fun rs _ μ' H' => ∀ vs, RRs K w (Fb Z μ') μ' H' rs vs → Q vs H'
/-- a statement's; what is raised has its slots, too -/
def rdS (f : Env → M (Fl × Env)) : TS := fun D σ H => ∃ Z μ st ρ, Cells K w Z μ st H ∧ RS K w (Fb Z μ) μ H ρ σ ∧
  Sat K w (fun _ _ _ _ => False) Z μ H σ (f ρ st) fun p _ μ' H' => match p.1 with
    | .nx => ∀ σ', RS K w (Fb Z μ') μ' H' p.2 σ' → D.nx σ' H'
    | .bk => ∀ σ', RS K w (Fb Z μ') μ' H' p.2 σ' → D.bk σ' H'
    | .ct => ∀ σ', RS K w (Fb Z μ') μ' H' p.2 σ' → D.ct σ' H'
    | .rt r => ∀ v, RR K w (Fb Z μ') μ' H' r v → D.rt v H'
    | .ex x => ∀ σ' cls d, RS K w (Fb Z μ') μ' H' p.2 σ' → RX K w (Fb Z μ') H' x cls d → E cls d σ' H'
end
end Iv
end
section
set_option Elab.async false
set_option linter.all false
set_option maxRecDepth 100000
set_option maxHeartbeats 4000000
/-! Iv.R1: the rules' ground: names, constants, operators, tests. -/
namespace Iv
open PySem PySem.Spec PyProof.Rows L2

section
variable {K : PySem.W.Frag} {w : World} {E : WX} {Z : Addr → Prop} {μ μ1 : List Addr} {H H1 : Hp} {σ : L2.St} {α β : Type}
theorem Sat.mono {r : Res α} {k k' : α → Sto → List Addr → Hp → Prop} (h : Sat K w E Z μ H σ r k) (i : ∀ a st' μ' H', Nx μ H μ' H' → Cells K w Z μ' st' H' → k a st' μ' H' → k' a st' μ' H') : Sat K w E Z μ H σ r k' := by
  cases r with
  | ok a st' => exact fun μ' H' nx c => i a st' μ' H' nx c (h μ' H' nx c)
  | exc x st' => exact h
  | bad => exact h
theorem Sat.shift {r : Res α} {k : α → Sto → List Addr → Hp → Prop} (nx : Nx μ H μ1 H1) (h : Sat K w E Z μ H σ r k) : Sat K w E Z μ1 H1 σ r k := by
  cases r with
  | ok a st' => exact fun μ' H' n c => h μ' H' (nx.trans n) c
  | exc x st' => exact fun μ' H' cls d n c => h μ' H' cls d (nx.trans n) c
  | bad => exact h
theorem Sat.bnd {m : M α} {k : α → M β} {st : Sto} {P : β → Sto → List Addr → Hp → Prop} (h : Sat K w E Z μ H σ (bnd m k st) P) :
    Sat K w E Z μ H σ (m st) fun a st1 μ1 H1 => Sat K w E Z μ1 H1 σ (k a st1) P := by
  unfold Iv.bnd at h
  cases e : m st with
  | ok a st1 =>
    rw [e] at h
    exact fun μ1 H1 nx c => Sat.shift nx h
  | exc x st1 =>
    rw [e] at h
    exact h
  | bad =>
    rw [e] at h
    exact h
theorem Sat.ok {a : α} {st : Sto} {k : α → Sto → List Addr → Hp → Prop} (c : Cells K w Z μ st H) (h : Sat K w E Z μ H σ (.ok a st) k) : k a st μ H := h μ H (Nx.refl μ H) c
theorem Sat.ofO {o : Option α} {st : Sto} {k : α → Sto → List Addr → Hp → Prop} (h : Sat K w E Z μ H σ (ofO o st) k) : ∃ a, o = some a ∧ Sat K w E Z μ H σ (.ok a st) k := by
  cases o with
  | none => exact False.elim h
  | some a => exact ⟨a, rfl, h⟩
end

section
variable {X : Cx} {E : WX}
abbrev QE (X : Cx) (E : WX) (e : Expr) (f : Env → M R) : Prop := PE X e (rd X.K X.w E f)
abbrev QT (X : Cx) (E : WX) (e : Expr) (f : Env → M Bool) : Prop := PT X e (rdT X.K X.w E f)
abbrev QA (X : Cx) (E : WX) (es : List Expr) (f : Env → M (List R)) : Prop := PA X es (rdA X.K X.w E f)
abbrev QS (X : Cx) (E : WX) (st : Stmt) (f : Env → SM) : Prop := PS X st (rdS X.K X.w E f)
abbrev QSs (X : Cx) (E : WX) (st : List Stmt) (f : Env → SM) : Prop := PSs X st (rdS X.K X.w E f)
theorem _root_.L2.PE.imp {e : Expr} {t t' : TE} (h : PE X e t) (i : ∀ σ H Q, t' σ H Q → t σ H Q) : PE X e t' := ⟨fun pins s σ H Q I q => h.run pins s σ H Q I (i σ H Q q)⟩
theorem _root_.L2.PT.imp {e : Expr} {t t' : TT} (h : PT X e t) (i : ∀ σ H Q, t' σ H Q → t σ H Q) : PT X e t' := ⟨fun pins s σ H Q I q => h.run pins s σ H Q I (i σ H Q q)⟩
theorem _root_.L2.PW.imp {e : Expr} {t t' : TT} (h : PW X e t) (i : ∀ σ H Q, t' σ H Q → t σ H Q) : PW X e t' := ⟨fun wh pins s σ H Q I q => h.run wh pins s σ H Q I (i σ H Q q)⟩
theorem _root_.L2.PA.imp {e : List Expr} {t t' : TA} (h : PA X e t) (i : ∀ σ H Q, t' σ H Q → t σ H Q) : PA X e t' := ⟨fun pos pins s σ H Q I q => h.run pos pins s σ H Q I (i σ H Q q)⟩
theorem _root_.L2.PS.imp {e : Stmt} {t t' : TS} (h : PS X e t) (i : ∀ D σ H, t' D σ H → t D σ H) : PS X e t' := ⟨fun pins s σ H D I q => h.run pins s σ H D I (i D σ H q)⟩
theorem _root_.L2.PSs.imp {e : List Stmt} {t t' : TS} (h : PSs X e t) (i : ∀ D σ H, t' D σ H → t D σ H) : PSs X e t' := ⟨fun pins s σ H D I q => h.run pins s σ H D I (i D σ H q)⟩
theorem OpR.imp {f : Value → Value → Sem Value} {r r' : R2} (h : OpR X f r) (i : ∀ x y H Q, r' x y H Q → r x y H Q) : OpR X f r' := fun pins s σ H x y v u Q I rx ry q => h pins s σ H x y v u Q I rx ry (i x y H Q q)

/-- the next part, begun at (μ, H): what comes behind it has its value -/
theorem rd_step {K : PySem.W.Frag} {w : World} {Z : Addr → Prop} {μ : List Addr} {st : Sto} {H : Hp} {σ : L2.St} {ρ : Env} {f : Env → M R} {β : Type} {k : R → M β} {P : β → Sto → List Addr → Hp → Prop} {Q : VK}
    (c : Cells K w Z μ st H) (s : RS K w (Fb Z μ) μ H ρ σ) (h : Sat K w E Z μ H σ (bnd (f ρ) k st) P)
    (hk : ∀ r1 st1 μ1 H1 v1, Nx μ H μ1 H1 → Cells K w Z μ1 st1 H1 → RS K w (Fb Z μ1) μ1 H1 ρ σ → RR K w (Fb Z μ1) μ1 H1 r1 v1 → Sat K w E Z μ1 H1 σ (k r1 st1) P → Q v1 H1) : rd K w E f σ H Q :=
  ⟨Z, μ, st, ρ, c, s, h.bnd.mono fun r1 st1 μ1 H1 nx c1 q v1 rv => hk r1 st1 μ1 H1 v1 nx c1 (s.nx nx) rv q⟩
theorem rdT_step {K : PySem.W.Frag} {w : World} {Z : Addr → Prop} {μ : List Addr} {st : Sto} {H : Hp} {σ : L2.St} {ρ : Env} {f : Env → M Bool} {β : Type} {k : Bool → M β} {P : β → Sto → List Addr → Hp → Prop} {Q : Bool → Hp → Prop}
    (c : Cells K w Z μ st H) (s : RS K w (Fb Z μ) μ H ρ σ) (h : Sat K w E Z μ H σ (bnd (f ρ) k st) P)
    (hk : ∀ r1 st1 μ1 H1, Nx μ H μ1 H1 → Cells K w Z μ1 st1 H1 → RS K w (Fb Z μ1) μ1 H1 ρ σ → Sat K w E Z μ1 H1 σ (k r1 st1) P → Q r1 H1) : rdT K w E f σ H Q :=
  ⟨Z, μ, st, ρ, c, s, h.bnd.mono fun r1 st1 μ1 H1 nx c1 q => hk r1 st1 μ1 H1 nx c1 (s.nx nx) q⟩
theorem rdA_step {K : PySem.W.Frag} {w : World} {Z : Addr → Prop} {μ : List Addr} {st : Sto} {H : Hp} {σ : L2.St} {ρ : Env} {f : Env → M (List R)} {β : Type} {k : List R → M β} {P : β → Sto → List Addr → Hp → Prop} {Q : List V → Hp → Prop}
    (c : Cells K w Z μ st H) (s : RS K w (Fb Z μ) μ H ρ σ) (h : Sat K w E Z μ H σ (bnd (f ρ) k st) P)
    (hk : ∀ r1 st1 μ1 H1 v1, Nx μ H μ1 H1 → Cells K w Z μ1 st1 H1 → RS K w (Fb Z μ1) μ1 H1 ρ σ → RRs K w (Fb Z μ1) μ1 H1 r1 v1 → Sat K w E Z μ1 H1 σ (k r1 st1) P → Q v1 H1) : rdA K w E f σ H Q :=
  ⟨Z, μ, st, ρ, c, s, h.bnd.mono fun r1 st1 μ1 H1 nx c1 q v1 rv => hk r1 st1 μ1 H1 v1 nx c1 (s.nx nx) rv q⟩
end

/-! ### what the parts compute -/
def eV (i : Nat) : Env → M R := fun ρ => match ρ[i]? with
  | some (some r) => ret r
  | _ => fail
def eC (x : W) : Env → M R := fun _ => ret (.w x)
/-- two parts, then an operation that changes nothing -/
def e2 (f : Sto → R → R → Option R) (a b : Env → M R) : Env → M R := fun ρ => bnd (a ρ) fun x => bnd (b ρ) fun y st => ofO (f st x y) st
def e1 (f : Sto → R → Option R) (a : Env → M R) : Env → M R := fun ρ => bnd (a ρ) fun x st => ofO (f st x) st
def aNil : Env → M (List R) := fun _ => ret []
def aCons (a : Env → M R) (b : Env → M (List R)) : Env → M (List R) := fun ρ => bnd (a ρ) fun x => bnd (b ρ) fun xs => ret (x :: xs)
def eA (f : Sto → List R → Option R) (a : Env → M (List R)) : Env → M R := fun ρ => bnd (a ρ) fun xs st => ofO (f st xs) st
def eIf (t : Env → M Bool) (a b : Env → M R) : Env → M R := fun ρ => bnd (t ρ) fun c => if c then a ρ else b ρ
def asB : R → Option Bool
  | .w (.bl b) => some b
  | _ => none
/-- a test by a value that is a bool -/
def tV (a : Env → M R) : Env → M Bool := fun ρ => bnd (a ρ) fun x => ofO (asB x)
def tAndM (a b : Env → M Bool) : Env → M Bool := fun ρ => bnd (a ρ) fun c => if c then b ρ else ret false
def tOrM (a b : Env → M Bool) : Env → M Bool := fun ρ => bnd (a ρ) fun c => if c then ret true else b ρ
def tNotM (a : Env → M Bool) : Env → M Bool := fun ρ => bnd (a ρ) fun c => ret (!c)
/-- and, or, not of bools as values -/
def eAnd (a b : Env → M R) : Env → M R := fun ρ => bnd (a ρ) fun x => bnd (ofO (asB x)) fun c => if c then b ρ else ret (.w (.bl false))
def eOr (a b : Env → M R) : Env → M R := fun ρ => bnd (a ρ) fun x => bnd (ofO (asB x)) fun c => if c then ret (.w (.bl true)) else b ρ
def eNot (a : Env → M R) : Env → M R := fun ρ => bnd (a ρ) fun x => bnd (ofO (asB x)) fun c => ret (.w (.bl (!c)))
def eChain (f g : Sto → R → R → Option R) (a b c : Env → M R) : Env → M R := fun ρ => bnd (a ρ) fun x => bnd (b ρ) fun y st => bnd (ofO ((f st x y).bind asB)) (fun k => if k then bnd (c ρ) fun z st => ofO (g st y z) st else ret (.w (.bl false))) st

section
variable {X : Cx} {E : WX}
theorem asB_bl {r : R} {b : Bool} (h : asB r = some b) : r = .w (.bl b) := by
  cases r with
  | loc n => cases h
  | w x => cases x <;> first | cases h; rfl | cases h
theorem RR.bl {K : PySem.W.Frag} {w : World} {F : Addr → Prop} {μ : List Addr} {H : Hp} {b : Bool} {v : V} (h : RR K w F μ H (.w (.bl b)) v) : v = .bl b := by
  cases h with
  | w h => cases h; rfl
/-! ### names, constants -/
theorem q_var {i : Nat} {e : Expr} (h : PE X e (tVar i)) : QE X E e (eV i) := h.imp fun σ H Q ⟨Z, μ, st, ρ, c, s, q⟩ => by
  unfold eV at q
  cases e : ρ[i]? with
  | none => rw [e] at q; exact False.elim q
  | some o =>
    cases o with
    | none => rw [e] at q; exact False.elim q
    | some r =>
      rw [e] at q
      obtain ⟨v, e', rv⟩ := s.at_ i r e
      exact ⟨v, e', q.ok c v rv⟩
theorem q_const {e : Expr} {x : W} {v : V} (h : PE X e (tC v)) (hv : ∀ F H, RV X.K X.w F H x v) : QE X E e (eC x) := h.imp fun σ H Q ⟨Z, μ, st, ρ, c, s, q⟩ => q.ok c v (.w (hv _ _))
theorem q_int {i : Int} {j pos} : QE X E (.Constant (.int i) j pos) (eC (.int i)) := q_const pe_int fun _ _ => .int i
theorem q_str {x : Str} {j pos} : QE X E (.Constant (.str x) j pos) (eC (.str x)) := q_const pe_str fun _ _ => .str x
theorem q_bl {b : Bool} {j pos} : QE X E (.Constant (.bool b) j pos) (eC (.bl b)) := q_const pe_bl fun _ _ => .bl b
theorem q_non {j pos} : QE X E (.Constant .none j pos) (eC .non) := q_const pe_non fun _ _ => .non
/-! ### two parts and an operator -/
/-- the operator as f says: nothing is changed but new things -/
def rdO (K : PySem.W.Frag) (w : World) (f : Sto → R → R → Option R) : R2 := fun x y H Q => ∃ Z μ st r1 r2 r, Cells K w Z μ st H ∧ RR K w (Fb Z μ) μ H r1 x ∧ RR K w (Fb Z μ) μ H r2 y ∧ f st r1 r2 = some r ∧
  ∀ v H', Nx μ H μ H' → Cells K w Z μ st H' → RR K w (Fb Z μ) μ H' r v → Q v H'
abbrev OpQ (X : Cx) (o : Value → Value → Sem Value) (f : Sto → R → R → Option R) : Prop := OpR X o (rdO X.K X.w f)
theorem op_read {K : PySem.W.Frag} {w : World} {f : Sto → R → R → Option R} {a b : Env → M R} {σ : L2.St} {H : Hp} {Q : VK} (h : rd K w E (e2 f a b) σ H Q) : tOp (rdO K w f) (rd K w E a) (rd K w E b) σ H Q := by
  obtain ⟨Z, μ, st, ρ, c, s, q⟩ := h
  refine rd_step (f := a) c s q fun r1 st1 μ1 H1 v1 n1 c1 s1 rv1 q1 => ?_
  refine rd_step (f := b) c1 s1 q1 fun r2 st2 μ2 H2 v2 n2 c2 s2 rv2 q2 => ?_
  obtain ⟨r, er, q3⟩ := q2.ofO
  exact ⟨Z, μ2, st2, r1, r2, r, c2, rv1.nx n2, rv2, er, fun v H' n c' rv => q3 μ2 H' n c' v rv⟩
theorem q_op {op : Operator} {f : Sto → R → R → Option R} {a b : Expr} {fa fb : Env → M R} {pos : Pos} (ho : OpQ X (binaryOp op) f) (ha : QE X E a fa) (hb : QE X E b fb) : QE X E (.BinOp a op b pos) (e2 f fa fb) :=
  (pe_op ho ha hb).imp fun _ _ _ h => op_read h
theorem q_cmp {op : CmpOp} {f : Sto → R → R → Option R} {a b : Expr} {fa fb : Env → M R} {pos : Pos} (ho : OpQ X (compareOp op) f) (ha : QE X E a fa) (hb : QE X E b fb) (hm : behindInMarks op b = false := by rfl) : QE X E (.Compare a [op] [b] pos) (e2 f fa fb) :=
  (pe_cmpR ho ha hb hm).imp fun _ _ _ h => op_read h
theorem q_tcmp {op : CmpOp} {f : Sto → R → R → Option R} {a b : Expr} {fa fb : Env → M R} {pos : Pos} (ho : OpQ X (compareOp op) f) (ha : QE X E a fa) (hb : QE X E b fb) (hm : behindInMarks op b = false := by rfl) : QT X E (.Compare a [op] [b] pos) (tV (e2 f fa fb)) :=
  (pt_cmpR ho ha hb hm).imp fun σ H Q h => by
    obtain ⟨Z, μ, st, ρ, c, s, q⟩ := h
    refine op_read (rd_step (f := e2 f fa fb) c s q fun r1 st1 μ1 H1 v1 n1 c1 s1 rv1 q1 => ?_)
    obtain ⟨b, eb, q2⟩ := q1.ofO
    rw [asB_bl eb] at rv1
    exact ⟨b, rv1.bl, q2.ok c1⟩
theorem chain_read {K : PySem.W.Frag} {w : World} {f g : Sto → R → R → Option R} {fa fb fc : Env → M R} {σ : L2.St} {H : Hp} {Q : VK} (h : rd K w E (eChain f g fa fb fc) σ H Q) : tChain (rdO K w f) (rdO K w g) (rd K w E fa) (rd K w E fb) (rd K w E fc) σ H Q := by
    obtain ⟨Z, μ, st, ρ, c, s, q⟩ := h
    refine rd_step (f := fa) c s q fun r1 st1 μ1 H1 v1 n1 c1 s1 rv1 q1 => ?_
    refine rd_step (f := fb) c1 s1 q1 fun r2 st2 μ2 H2 v2 n2 c2 s2 rv2 q2 => ?_
    obtain ⟨k, ek, q3⟩ := q2.bnd.ofO
    obtain ⟨r, er, eb⟩ := Option.bind_eq_some_iff.mp ek
    refine ⟨Z, μ2, st2, r1, r2, r, c2, rv1.nx n2, rv2, er, fun v H3 n3 c3 rv => ⟨k, ?_, ?_⟩⟩
    · rw [asB_bl eb] at rv
      exact rv.bl
    · have q4 := q3 μ2 H3 n3 c3
      cases k with
      | false =>
        rw [if_neg Bool.false_ne_true]
        exact q4.ok c3 _ (.w (.bl false))
      | true =>
        rw [if_pos rfl]
        refine rd_step (f := fc) c3 (s2.nx n3) q4 fun r3 st3 μ3 H4 v3 n4 c4 s4 rv4 q5 => ?_
        obtain ⟨r, er, q6⟩ := q5.ofO
        exact ⟨Z, μ3, st3, r2, r3, r, c4, (rv2.nx n3).nx n4, rv4, er, fun v H' n c' rv => q6 μ3 H' n c' v rv⟩
theorem q_chain {op op' : CmpOp} {f g : Sto → R → R → Option R} {a b c : Expr} {fa fb fc : Env → M R} {pos : Pos} (h : PE X (.Compare a [op, op'] [b, c] pos) (tChain (rdO X.K X.w f) (rdO X.K X.w g) (rd X.K X.w E fa) (rd X.K X.w E fb) (rd X.K X.w E fc))) :
    QE X E (.Compare a [op, op'] [b, c] pos) (eChain f g fa fb fc) := h.imp fun _ _ _ h => chain_read h
theorem q_tchain {op op' : CmpOp} {f g : Sto → R → R → Option R} {a b c : Expr} {fa fb fc : Env → M R} {pos : Pos} (h : PT X (.Compare a [op, op'] [b, c] pos) (tTest (tChain (rdO X.K X.w f) (rdO X.K X.w g) (rd X.K X.w E fa) (rd X.K X.w E fb) (rd X.K X.w E fc)))) :
    QT X E (.Compare a [op, op'] [b, c] pos) (tV (eChain f g fa fb fc)) := h.imp fun σ H Q hh => by
  obtain ⟨Z, μ, st, ρ, c, s, q⟩ := hh
  refine chain_read (rd_step (f := eChain f g fa fb fc) c s q fun r1 st1 μ1 H1 v1 n1 c1 s1 rv1 q1 => ?_)
  obtain ⟨k, ek, q2⟩ := q1.ofO
  rw [asB_bl ek] at rv1
  exact ⟨k, rv1.bl, q2.ok c1⟩
/-! ### tests -/
theorem q_test {e : Expr} {f : Env → M R} (h : QE X E e f) (he : ∀ whole, isTrue e X.env whole = (do let v ← whole; standAt e.pos; holding [v] (truthy v)) := by intro _; rfl) : QT X E e (tV f) :=
  (pt_val h he).imp fun σ H Q h => by
    obtain ⟨Z, μ, st, ρ, c, s, q⟩ := h
    refine rd_step (f := f) c s q fun r1 st1 μ1 H1 v1 n1 c1 s1 rv1 q1 => ?_
    obtain ⟨b, eb, q2⟩ := q1.ofO
    rw [asB_bl eb] at rv1
    exact ⟨b, rv1.bl, q2.ok c1⟩
abbrev QW (X : Cx) (E : WX) (e : Expr) (f : Env → M Bool) : Prop := PW X e (rdT X.K X.w E f)
theorem tAnd_read {K : PySem.W.Frag} {w : World} {a b : Env → M Bool} {σ : L2.St} {H : Hp} {Q : Bool → Hp → Prop} (h : rdT K w E (tAndM a b) σ H Q) : L2.tAnd (rdT K w E a) (rdT K w E b) σ H Q := by
  obtain ⟨Z, μ, st, ρ, c, s, q⟩ := h
  refine rdT_step (f := a) c s q fun k st1 μ1 H1 n1 c1 s1 q1 => ?_
  cases k with
  | true =>
    rw [if_pos rfl]
    exact ⟨Z, μ1, st1, ρ, c1, s1, q1⟩
  | false =>
    rw [if_neg Bool.false_ne_true]
    exact q1.ok c1
theorem tOr_read {K : PySem.W.Frag} {w : World} {a b : Env → M Bool} {σ : L2.St} {H : Hp} {Q : Bool → Hp → Prop} (h : rdT K w E (tOrM a b) σ H Q) : L2.tOr (rdT K w E a) (rdT K w E b) σ H Q := by
  obtain ⟨Z, μ, st, ρ, c, s, q⟩ := h
  refine rdT_step (f := a) c s q fun k st1 μ1 H1 n1 c1 s1 q1 => ?_
  cases k with
  | true =>
    rw [if_pos rfl]
    exact q1.ok c1
  | false =>
    rw [if_neg Bool.false_ne_true]
    exact ⟨Z, μ1, st1, ρ, c1, s1, q1⟩
theorem q_and1 {a : Expr} {f : Env → M Bool} {pos : Pos} (h : QT X E a f) : QW X E (.BoolOp .And [a] pos) f := pw_and1 h
theorem q_or1 {a : Expr} {f : Env → M Bool} {pos : Pos} (h : QT X E a f) : QW X E (.BoolOp .Or [a] pos) f := pw_or1 h
theorem q_and {a b : Expr} {rest : List Expr} {f g : Env → M Bool} {pos : Pos} (h : QT X E a f) (h2 : QW X E (.BoolOp .And (b :: rest) pos) g) : QW X E (.BoolOp .And (a :: b :: rest) pos) (tAndM f g) :=
  (pw_and h h2).imp fun _ _ _ q => tAnd_read q
theorem q_or {a b : Expr} {rest : List Expr} {f g : Env → M Bool} {pos : Pos} (h : QT X E a f) (h2 : QW X E (.BoolOp .Or (b :: rest) pos) g) : QW X E (.BoolOp .Or (a :: b :: rest) pos) (tOrM f g) :=
  (pw_or h h2).imp fun _ _ _ q => tOr_read q
theorem q_w {e : Expr} {f : Env → M Bool} (h : QW X E e f) : QT X E e f := h.pt
theorem q_tnot {a : Expr} {f : Env → M Bool} {pos : Pos} (h : QT X E a f) : QT X E (.UnaryOp .Not a pos) (tNotM f) :=
  (pt_not h).imp fun σ H Q h => by
    obtain ⟨Z, μ, st, ρ, c, s, q⟩ := h
    exact rdT_step (f := f) c s q fun k st1 μ1 H1 n1 c1 s1 q1 => q1.ok c1
theorem q_eand1 {op} {a : Expr} {f : Env → M R} {pos : Pos} (h : QE X E a f) : QE X E (.BoolOp op [a] pos) f := pe_one h
theorem q_eand {a b : Expr} {rest : List Expr} {f g : Env → M R} {pos : Pos} (h : QE X E a f) (h2 : QE X E (.BoolOp .And (b :: rest) pos) g) : QE X E (.BoolOp .And (a :: b :: rest) pos) (eAnd f g) :=
  (pe_and h h2).imp fun σ H Q h => by
    obtain ⟨Z, μ, st, ρ, c, s, q⟩ := h
    refine rd_step (f := f) c s q fun r1 st1 μ1 H1 v1 n1 c1 s1 rv1 q1 => ?_
    obtain ⟨k, ek, q2⟩ := q1.bnd.ofO
    rw [asB_bl ek] at rv1
    refine ⟨k, rv1.bl, ?_⟩
    have q3 := q2.ok c1
    cases k with
    | true =>
      rw [if_pos rfl]
      exact ⟨Z, μ1, st1, ρ, c1, s1, q3⟩
    | false =>
      rw [if_neg Bool.false_ne_true]
      exact q3.ok c1 _ (.w (.bl false))
theorem q_eor {a b : Expr} {rest : List Expr} {f g : Env → M R} {pos : Pos} (h : QE X E a f) (h2 : QE X E (.BoolOp .Or (b :: rest) pos) g) : QE X E (.BoolOp .Or (a :: b :: rest) pos) (eOr f g) :=
  (pe_or h h2).imp fun σ H Q h => by
    obtain ⟨Z, μ, st, ρ, c, s, q⟩ := h
    refine rd_step (f := f) c s q fun r1 st1 μ1 H1 v1 n1 c1 s1 rv1 q1 => ?_
    obtain ⟨k, ek, q2⟩ := q1.bnd.ofO
    rw [asB_bl ek] at rv1
    refine ⟨k, rv1.bl, ?_⟩
    have q3 := q2.ok c1
    cases k with
    | true =>
      rw [if_pos rfl]
      exact q3.ok c1 _ (.w (.bl true))
    | false =>
      rw [if_neg Bool.false_ne_true]
      exact ⟨Z, μ1, st1, ρ, c1, s1, q3⟩
theorem q_enot {a : Expr} {f : Env → M R} {pos : Pos} (h : QE X E a f) : QE X E (.UnaryOp .Not a pos) (eNot f) :=
  (pe_not h).imp fun σ H Q h => by
    obtain ⟨Z, μ, st, ρ, c, s, q⟩ := h
    refine rd_step (f := f) c s q fun r1 st1 μ1 H1 v1 n1 c1 s1 rv1 q1 => ?_
    obtain ⟨k, ek, q2⟩ := q1.bnd.ofO
    rw [asB_bl ek] at rv1
    exact ⟨k, rv1.bl, (q2.ok c1).ok c1 _ (.w (.bl _))⟩
theorem q_if {t a b : Expr} {ft : Env → M Bool} {fa fb : Env → M R} {pos : Pos} (ht : QT X E t ft) (ha : QE X E a fa) (hb : QE X E b fb) : QE X E (.IfExp t a b pos) (eIf ft fa fb) :=
  (pe_ifExp ht ha hb).imp fun σ H Q h => by
    obtain ⟨Z, μ, st, ρ, c, s, q⟩ := h
    refine rdT_step (f := ft) c s q fun k st1 μ1 H1 n1 c1 s1 q1 => ?_
    cases k with
    | true =>
      rw [if_pos rfl]
      exact ⟨Z, μ1, st1, ρ, c1, s1, q1⟩
    | false =>
      rw [if_neg Bool.false_ne_true]
      exact ⟨Z, μ1, st1, ρ, c1, s1, q1⟩
/-! ### arguments, tuples, lists -/
theorem q_anil : QA X E [] aNil := pa_nil.imp fun σ H Q ⟨Z, μ, st, ρ, c, s, q⟩ => q.ok c _ .nil
theorem q_acons {e : Expr} {es : List Expr} {f : Env → M R} {g : Env → M (List R)} (h : QE X E e f) (h2 : QA X E es g) (hs : starEach (e :: es) X.env = (false, eval e X.env) :: starEach es X.env := by rfl) : QA X E (e :: es) (aCons f g) :=
  (pa_cons h h2 hs).imp fun σ H Q h => by
    obtain ⟨Z, μ, st, ρ, c, s, q⟩ := h
    refine rd_step (f := f) c s q fun r1 st1 μ1 H1 v1 n1 c1 s1 rv1 q1 => ?_
    refine rdA_step (f := g) c1 s1 q1 fun r2 st2 μ2 H2 v2 n2 c2 s2 rv2 q2 => ?_
    exact q2.ok c2 _ (.cons (rv1.nx n2) rv2)
end
end Iv
end
section
set_option Elab.async false
set_option linter.all false
set_option maxRecDepth 100000
set_option maxHeartbeats 4000000
/-! Iv.R2: operators. -/
namespace Iv
open PySem PySem.Spec PyProof.Rows L2

/-- small enough for every line of sizes -/
def fits (n : Nat) : Bool := decide (n ≤ 1000000)
theorem fits_le {n : Nat} (h : fits n = true) : n ≤ sizeLine := by
  have := of_decide_eq_true h
  rw [sizeLine_eq]; omega
/-- a list's items, wherever it stands -/
def listOf (st : Sto) : R → Option (List W)
  | .w (.lst xs) => some xs
  | .loc n => match st[n]? with
    | some (.lst xs) => some xs
    | _ => none
  | _ => none
/-- the value of what is no cell, or of a list that is one -/
def wOf (st : Sto) : R → Option W
  | .w x => some x
  | .loc n => match st[n]? with
    | some (.lst xs) => some (.lst xs)
    | _ => none

section
variable {K : PySem.W.Frag} {w : World} {Z : Addr → Prop} {F : Addr → Prop} {μ : List Addr} {st : Sto} {H : Hp}
theorem RR.int {i : Int} {v : V} (h : RR K w F μ H (.w (.int i)) v) : v = .int i := by
  cases h with
  | w h => cases h; rfl
theorem RR.str {i : Str} {v : V} (h : RR K w F μ H (.w (.str i)) v) : v = .str i := by
  cases h with
  | w h => cases h; rfl
theorem RR.non {v : V} (h : RR K w F μ H (.w .non) v) : v = .non := by
  cases h with
  | w h => cases h; rfl
theorem RV.tupS {xs : List W} {v : V} (h : RV K w F H (.tup xs) v) : ∃ a us, v = .ref a ∧ SqT K H a us ∧ RVs K w F H xs us := by
  cases h with
  | tupK e r => exact ⟨_, _, rfl, .inr e, r⟩
  | tup e _ r => exact ⟨_, _, rfl, .inl e, r⟩
theorem RR.tupS {xs : List W} {v : V} (h : RR K w F μ H (.w (.tup xs)) v) : ∃ a us, v = .ref a ∧ SqT K H a us ∧ RVs K w F H xs us := by
  cases h with
  | w h => exact h.tupS
theorem RR.listS {r : R} {xs : List W} {v : V} (c : Cells K w Z μ st H) (e : listOf st r = some xs) (h : RR K w (Fb Z μ) μ H r v) : ∃ a us, v = .ref a ∧ H a = some (.lst us) ∧ RVs K w (Fb Z μ) H xs us := by
  cases h with
  | w h =>
    cases h <;> first | cases e | skip
    rename_i a us e1 _ r
    exact ⟨_, _, rfl, e1, r⟩
  | @loc n a h =>
    unfold listOf at e
    simp only at e
    cases q : st[n]? with
    | none => rw [q] at e; cases e
    | some ce =>
      rw [q] at e
      cases ce <;> first | cases e | skip
      cases c.ok n _ a q h with
      | lst e1 r => exact ⟨_, _, rfl, e1, r⟩
theorem RR.wS {r : R} {x : W} {v : V} (c : Cells K w Z μ st H) (e : wOf st r = some x) (h : RR K w (Fb Z μ) μ H r v) : RV K w (Fb Z μ) H x v ∨ ∃ xs a us, x = .lst xs ∧ v = .ref a ∧ H a = some (.lst us) ∧ RVs K w (Fb Z μ) H xs us := by
  cases h with
  | w h => cases e; exact .inl h
  | @loc n a h =>
    unfold wOf at e
    simp only at e
    cases q : st[n]? with
    | none => rw [q] at e; cases e
    | some ce =>
      rw [q] at e
      cases ce <;> first | cases e | skip
      cases c.ok n _ a q h with
      | lst e1 r => exact .inr ⟨_, _, _, rfl, rfl, e1, r⟩
/-- a new tuple, a new list by value -/
theorem RR.newTup (c : Cells K w Z μ st H) {p : Addr} (hp : H p = none) {xs : List W} {us : List V} (r : RVs K w (Fb Z μ) H xs us) : RR K w (Fb Z μ) μ (upd H p (.tup us)) (.w (.tup xs)) (.ref p) :=
  .w (.tup (.inl upd_same) (c.fresh hp) (r.nx (Nx.new hp)))
theorem RR.newLst (c : Cells K w Z μ st H) {p : Addr} (hp : H p = none) {xs : List W} {us : List V} (r : RVs K w (Fb Z μ) H xs us) : RR K w (Fb Z μ) μ (upd H p (.lst us)) (.w (.lst xs)) (.ref p) :=
  .w (.lst upd_same (c.fresh hp) (r.nx (Nx.new hp)))
end

/-! ### + - * // % ** -/
def addR (st : Sto) (x y : R) : Option R := match x, y with
  | .w (.int i), .w (.int j) => some (.w (.int (i + j)))
  | .w (.str i), .w (.str j) => if fits (i.length + j.length) then some (.w (.str (i ++ j))) else none
  | .w (.tup xs), .w (.tup ys) => if fits (xs.length + ys.length) then some (.w (.tup (xs ++ ys))) else none
  | x, y => match listOf st x, listOf st y with
    | some xs, some ys => if fits (xs.length + ys.length) then some (.w (.lst (xs ++ ys))) else none
    | _, _ => none
def subR (_ : Sto) (x y : R) : Option R := match x, y with
  | .w (.int i), .w (.int j) => some (.w (.int (i - j)))
  | _, _ => none
def small64 (i : Int) : Bool := decide (-(2 ^ 64) < i) && decide (i < 2 ^ 64)
def mulR (_ : Sto) (x y : R) : Option R := match x, y with
  | .w (.int i), .w (.int j) => if small64 j then some (.w (.int (i * j))) else none
  | _, _ => none
def fdivR (_ : Sto) (x y : R) : Option R := match x, y with
  | .w (.int i), .w (.int j) => if decide (0 < j) && decide (j < 1073741824) then some (.w (.int (i / j))) else none
  | _, _ => none
def modR (_ : Sto) (x y : R) : Option R := match x, y with
  | .w (.int i), .w (.int j) => if decide (0 < j) then some (.w (.int (i % j))) else none
  | _, _ => none
def powR (_ : Sto) (x y : R) : Option R := match x, y with
  | .w (.int i), .w (.int j) => if decide (0 ≤ j) && decide (j ≤ 1000) && decide (i.natAbs < 2 ^ 64) then some (.w (.int (i ^ j.toNat))) else none
  | _, _ => none
section
variable {X : Cx}
theorem ite_some {α : Type} {c : Bool} {a b : α} (h : (if c = true then some a else none) = some b) : c = true ∧ a = b := by
  cases c with
  | true => exact ⟨rfl, Option.some.inj h⟩
  | false => cases h
theorem ite_some' {α : Type} {c : Bool} {a : Option α} {b : α} (h : (if c = true then a else none) = some b) : c = true ∧ a = some b := by
  cases c with
  | true => exact ⟨rfl, h⟩
  | false => cases h
theorem ite_some'' {α : Type} {c : Prop} [Decidable c] {a : Option α} {b : α} (h : (if c then a else none) = some b) : c ∧ a = some b := by
  by_cases hc : c
  · rw [if_pos hc] at h; exact ⟨hc, h⟩
  · rw [if_neg hc] at h; cases h
theorem addR_cases {st : Sto} {x y r : R} (h : addR st x y = some r) :
    (∃ i j, x = .w (.int i) ∧ y = .w (.int j) ∧ r = .w (.int (i + j))) ∨ (∃ i j, x = .w (.str i) ∧ y = .w (.str j) ∧ fits (i.length + j.length) = true ∧ r = .w (.str (i ++ j))) ∨
    (∃ i j, x = .w (.tup i) ∧ y = .w (.tup j) ∧ fits (i.length + j.length) = true ∧ r = .w (.tup (i ++ j))) ∨
    (∃ i j, listOf st x = some i ∧ listOf st y = some j ∧ fits (i.length + j.length) = true ∧ r = .w (.lst (i ++ j))) := by
  have fin : ∀ {x y : R}, (match listOf st x, listOf st y with
      | some xs, some ys => if fits (xs.length + ys.length) then some (R.w (.lst (xs ++ ys))) else none
      | _, _ => none) = some r → ∃ i j, listOf st x = some i ∧ listOf st y = some j ∧ fits (i.length + j.length) = true ∧ r = .w (.lst (i ++ j)) := fun {x y} h => by
    cases ex : listOf st x with
    | none => rw [ex] at h; cases h
    | some i =>
      cases ey : listOf st y with
      | none => rw [ex, ey] at h; cases h
      | some j =>
        rw [ex, ey] at h
        obtain ⟨h1, h2⟩ := ite_some h
        exact ⟨i, j, rfl, rfl, h1, h2.symm⟩
  unfold addR at h
  split at h
  · cases h; exact .inl ⟨_, _, rfl, rfl, rfl⟩
  · obtain ⟨h1, h2⟩ := ite_some h
    exact .inr (.inl ⟨_, _, rfl, rfl, h1, h2.symm⟩)
  · obtain ⟨h1, h2⟩ := ite_some h
    exact .inr (.inr (.inl ⟨_, _, rfl, rfl, h1, h2.symm⟩))
  · exact .inr (.inr (.inr (fin h)))
theorem oq_add : OpQ X (binaryOp .Add) addR := by
  refine OpR.imp (OpR.or op_add (OpR.or op_add_str (OpR.or op_catA op_cat))) fun x y H Q h => ?_
  obtain ⟨Z, μ, st, r1, r2, r, c, h1, h2, e, q⟩ := h
  rcases addR_cases e with ⟨i, j, rfl, rfl, rfl⟩ | ⟨i, j, rfl, rfl, hf, rfl⟩ | ⟨i, j, rfl, rfl, hf, rfl⟩ | ⟨i, j, e1, e2, hf, rfl⟩
  · exact .inl ⟨i, j, h1.int, h2.int, q _ _ (Nx.refl _ _) c (.w (.int _))⟩
  · exact .inr (.inl ⟨i, j, h1.str, h2.str, fits_le hf, q _ _ (Nx.refl _ _) c (.w (.str _))⟩)
  · obtain ⟨a, us, rfl, s1, r1⟩ := h1.tupS
    obtain ⟨b, vs, rfl, s2, r2⟩ := h2.tupS
    refine .inr (.inr (.inl ⟨a, b, us, vs, rfl, rfl, s1, s2, by rw [← r1.length, ← r2.length]; exact fits_le hf, fun z => ?_, fun z z2 => ?_, fun z z2 p hp => ?_⟩))
    · subst z
      cases r1
      exact q _ _ (Nx.refl _ _) c (by simpa using h2)
    · subst z2
      cases r2
      exact q _ _ (Nx.refl _ _) c (by simpa using h1)
    · exact q _ _ (Nx.new hp) (c.new hp) (RR.newTup c hp (r1.append r2))
  · obtain ⟨a, us, rfl, s1, r1⟩ := h1.listS c e1
    obtain ⟨b, vs, rfl, s2, r2⟩ := h2.listS c e2
    exact .inr (.inr (.inr ⟨a, b, us, vs, rfl, rfl, s1, s2, by rw [← r1.length, ← r2.length]; exact fits_le hf, fun p hp => q _ _ (Nx.new hp) (c.new hp) (RR.newLst c hp (r1.append r2))⟩))
theorem oq_sub : OpQ X (binaryOp .Sub) subR := by
  refine OpR.imp op_sub fun x y H Q h => ?_
  obtain ⟨Z, μ, st, r1, r2, r, c, h1, h2, e, q⟩ := h
  unfold subR at e
  split at e
  · cases e
    exact ⟨_, _, h1.int, h2.int, q _ _ (Nx.refl _ _) c (.w (.int _))⟩
  · cases e
theorem oq_mul : OpQ X (binaryOp .Mult) mulR := by
  refine OpR.imp op_mul fun x y H Q h => ?_
  obtain ⟨Z, μ, st, r1, r2, r, c, h1, h2, e, q⟩ := h
  unfold mulR at e
  split at e
  · obtain ⟨hs, e⟩ := ite_some e
    cases e
    obtain ⟨h3, h4⟩ := Bool.and_eq_true_iff.mp hs
    exact ⟨_, _, h1.int, h2.int, .inr ⟨of_decide_eq_true h3, of_decide_eq_true h4⟩, q _ _ (Nx.refl _ _) c (.w (.int _))⟩
  · cases e
theorem oq_fdiv : OpQ X (binaryOp .FloorDiv) fdivR := by
  refine OpR.imp op_fdiv fun x y H Q h => ?_
  obtain ⟨Z, μ, st, r1, r2, r, c, h1, h2, e, q⟩ := h
  unfold fdivR at e
  split at e
  · obtain ⟨hs, e⟩ := ite_some e
    cases e
    obtain ⟨h3, h4⟩ := Bool.and_eq_true_iff.mp hs
    exact ⟨_, _, h1.int, h2.int, ⟨of_decide_eq_true h3, of_decide_eq_true h4⟩, q _ _ (Nx.refl _ _) c (.w (.int _))⟩
  · cases e
theorem oq_mod : OpQ X (binaryOp .Mod) modR := by
  refine OpR.imp op_mod fun x y H Q h => ?_
  obtain ⟨Z, μ, st, r1, r2, r, c, h1, h2, e, q⟩ := h
  unfold modR at e
  split at e
  · obtain ⟨hs, e⟩ := ite_some e
    cases e
    exact ⟨_, _, h1.int, h2.int, of_decide_eq_true hs, q _ _ (Nx.refl _ _) c (.w (.int _))⟩
  · cases e
theorem oq_pow : OpQ X (binaryOp .Pow) powR := by
  refine OpR.imp op_pow fun x y H Q h => ?_
  obtain ⟨Z, μ, st, r1, r2, r, c, h1, h2, e, q⟩ := h
  unfold powR at e
  split at e
  · obtain ⟨hs, e⟩ := ite_some e
    cases e
    obtain ⟨h34, h5⟩ := Bool.and_eq_true_iff.mp hs
    obtain ⟨h3, h4⟩ := Bool.and_eq_true_iff.mp h34
    refine ⟨_, _, h1.int, h2.int, ⟨of_decide_eq_true h3, ?_, of_decide_eq_true h5⟩, q _ _ (Nx.refl _ _) c (.w (.int _))⟩
    have := of_decide_eq_true h4
    omega
  · cases e
end

/-! ### order -/
def ltR (_ : Sto) (x y : R) : Option R := match x, y with
  | .w (.int i), .w (.int j) => some (.w (.bl (decide (i < j))))
  | .w (.str i), .w (.str j) => some (.w (.bl (decide (i.cps.toList < j.cps.toList))))
  | _, _ => none
def leR (_ : Sto) (x y : R) : Option R := match x, y with
  | .w (.int i), .w (.int j) => some (.w (.bl (decide (i ≤ j))))
  | .w (.str i), .w (.str j) => some (.w (.bl (!decide (j.cps.toList < i.cps.toList))))
  | _, _ => none
def gtR (_ : Sto) (x y : R) : Option R := match x, y with
  | .w (.int i), .w (.int j) => some (.w (.bl (decide (j < i))))
  | _, _ => none
def geR (_ : Sto) (x y : R) : Option R := match x, y with
  | .w (.int i), .w (.int j) => some (.w (.bl (decide (j ≤ i))))
  | _, _ => none
section
variable {X : Cx}
theorem oq_lt : OpQ X (compareOp .Lt) ltR := by
  refine OpR.imp (OpR.or op_lt op_lt_str) fun x y H Q h => ?_
  obtain ⟨Z, μ, st, r1, r2, r, c, h1, h2, e, q⟩ := h
  unfold ltR at e
  split at e
  · cases e
    exact .inl ⟨_, _, h1.int, h2.int, q _ _ (Nx.refl _ _) c (.w (.bl _))⟩
  · cases e
    exact .inr ⟨_, _, h1.str, h2.str, q _ _ (Nx.refl _ _) c (.w (.bl _))⟩
  · cases e
theorem oq_gt : OpQ X (compareOp .Gt) gtR := by
  refine OpR.imp op_gt fun x y H Q h => ?_
  obtain ⟨Z, μ, st, r1, r2, r, c, h1, h2, e, q⟩ := h
  unfold gtR at e
  split at e
  · cases e
    exact ⟨_, _, h1.int, h2.int, q _ _ (Nx.refl _ _) c (.w (.bl _))⟩
  · cases e
theorem oq_ge : OpQ X (compareOp .GtE) geR := by
  refine OpR.imp op_ge fun x y H Q h => ?_
  obtain ⟨Z, μ, st, r1, r2, r, c, h1, h2, e, q⟩ := h
  unfold geR at e
  split at e
  · cases e
    exact ⟨_, _, h1.int, h2.int, q _ _ (Nx.refl _ _) c (.w (.bl _))⟩
  · cases e
end

/-! ### == -/
mutual
theorem pl_data : ∀ (d : Nat) (x : W), W.pl d x = true → ∃ p, x.data = some p ∧ p.canLay0 = true ∧ p.depth ≤ d
  | _, .non, _ => ⟨_, rfl, rfl, Nat.zero_le _⟩
  | _, .bl b, _ => ⟨_, rfl, rfl, Nat.zero_le _⟩
  | _, .int i, _ => ⟨_, rfl, rfl, Nat.zero_le _⟩
  | 0, .str x, h => ⟨_, rfl, h, Nat.zero_le _⟩
  | d + 1, .str x, h => ⟨_, rfl, h, Nat.zero_le _⟩
  | 0, .tup xs, h => by cases h
  | 0, .lst xs, h => by cases h
  | d + 1, .tup xs, h => by
    obtain ⟨ps, e, l, dd⟩ := pl_datas d xs h
    exact ⟨.tuple ps, by simp [W.data, e], l, by simp only [PyData.depth]; omega⟩
  | d + 1, .lst xs, h => by
    obtain ⟨ps, e, l, dd⟩ := pl_datas d xs h
    exact ⟨.list ps, by simp [W.data, e], l, by simp only [PyData.depth]; omega⟩
  | 0, .dic _ _, h => by cases h
  | _ + 1, .dic _ _, h => by cases h
  | 0, .ins _ _, h => by cases h
  | _ + 1, .ins _ _, h => by cases h
  | 0, .fn _, h => by cases h
  | _ + 1, .fn _, h => by cases h
  | 0, .ty _, h => by cases h
  | _ + 1, .ty _, h => by cases h
  | 0, .scr _, h => by cases h
  | _ + 1, .scr _, h => by cases h
theorem pl_datas : ∀ (d : Nat) (xs : List W), xs.all (W.pl d) = true → ∃ ps, W.datas xs = some ps ∧ PyData.canLayAll0 ps = true ∧ PyData.depthAll ps ≤ d
  | _, [], _ => ⟨[], rfl, rfl, Nat.zero_le _⟩
  | d, x :: xs, h => by
    rw [List.all_cons] at h
    obtain ⟨h1, h2⟩ := Bool.and_eq_true_iff.mp h
    obtain ⟨p, e1, l1, d1⟩ := pl_data d x h1
    obtain ⟨ps, e2, l2, d2⟩ := pl_datas d xs h2
    exact ⟨p :: ps, by simp [W.datas, e1, e2], by simp [PyData.canLayAll0, l1, l2], by simp only [PyData.depthAll]; omega⟩
end
mutual
theorem data_eqv : ∀ (x y : W) (p q : PyData), x.data = some p → y.data = some q → PyData.eqv p q = W.eqv x y
  | .tup xs, .tup ys, p, q, h1, h2 => by
    simp only [W.data, Option.map_eq_some_iff] at h1 h2
    obtain ⟨ps, e1, rfl⟩ := h1
    obtain ⟨qs, e2, rfl⟩ := h2
    rw [PyData.eqv, W.eqv]
    exact datas_eqv xs ys ps qs e1 e2
  | .lst xs, .lst ys, p, q, h1, h2 => by
    simp only [W.data, Option.map_eq_some_iff] at h1 h2
    obtain ⟨ps, e1, rfl⟩ := h1
    obtain ⟨qs, e2, rfl⟩ := h2
    rw [PyData.eqv, W.eqv]
    exact datas_eqv xs ys ps qs e1 e2
  | .tup xs, .lst ys, p, q, h1, h2 => by
    simp only [W.data, Option.map_eq_some_iff] at h1 h2
    obtain ⟨ps, e1, rfl⟩ := h1
    obtain ⟨qs, e2, rfl⟩ := h2
    rfl
  | .lst xs, .tup ys, p, q, h1, h2 => by
    simp only [W.data, Option.map_eq_some_iff] at h1 h2
    obtain ⟨ps, e1, rfl⟩ := h1
    obtain ⟨qs, e2, rfl⟩ := h2
    rfl
  | .tup xs, .non, p, q, h1, h2 | .tup xs, .bl _, p, q, h1, h2 | .tup xs, .int _, p, q, h1, h2 | .tup xs, .str _, p, q, h1, h2 | .lst xs, .non, p, q, h1, h2 | .lst xs, .bl _, p, q, h1, h2 | .lst xs, .int _, p, q, h1, h2 | .lst xs, .str _, p, q, h1, h2 => by
    simp only [W.data, Option.map_eq_some_iff] at h1
    obtain ⟨ps, e1, rfl⟩ := h1
    cases h2
    rfl
  | .non, .tup ys, p, q, h1, h2 | .bl _, .tup ys, p, q, h1, h2 | .int _, .tup ys, p, q, h1, h2 | .str _, .tup ys, p, q, h1, h2 | .non, .lst ys, p, q, h1, h2 | .bl _, .lst ys, p, q, h1, h2 | .int _, .lst ys, p, q, h1, h2 | .str _, .lst ys, p, q, h1, h2 => by
    simp only [W.data, Option.map_eq_some_iff] at h2
    obtain ⟨ps, e1, rfl⟩ := h2
    cases h1
    rfl
  | .non, .non, _, _, h1, h2 | .non, .bl _, _, _, h1, h2 | .non, .int _, _, _, h1, h2 | .non, .str _, _, _, h1, h2 => by cases h1; cases h2; rfl
  | .bl _, .non, _, _, h1, h2 | .bl _, .bl _, _, _, h1, h2 | .bl _, .int _, _, _, h1, h2 | .bl _, .str _, _, _, h1, h2 => by cases h1; cases h2; rfl
  | .int _, .non, _, _, h1, h2 | .int _, .bl _, _, _, h1, h2 | .int _, .int _, _, _, h1, h2 | .int _, .str _, _, _, h1, h2 => by cases h1; cases h2; rfl
  | .str _, .non, _, _, h1, h2 | .str _, .bl _, _, _, h1, h2 | .str _, .int _, _, _, h1, h2 | .str _, .str _, _, _, h1, h2 => by cases h1; cases h2; rfl
  | .dic _ _, _, _, _, h1, _ | .ins _ _, _, _, _, h1, _ | .fn _, _, _, _, h1, _ | .ty _, _, _, _, h1, _ | .scr _, _, _, _, h1, _ => by cases h1
  | _, .dic _ _, _, _, _, h2 | _, .ins _ _, _, _, _, h2 | _, .fn _, _, _, _, h2 | _, .ty _, _, _, _, h2 | _, .scr _, _, _, _, h2 => by cases h2
theorem datas_eqv : ∀ (xs ys : List W) (ps qs : List PyData), W.datas xs = some ps → W.datas ys = some qs → PyData.eqvAll ps qs = W.eqvs xs ys
  | [], [], _, _, h1, h2 => by cases h1; cases h2; rfl
  | [], y :: ys, _, qs, h1, h2 => by
    cases h1
    cases qs with
    | nil =>
      simp only [W.datas] at h2
      split at h2 <;> cases h2
    | cons q qs => rfl
  | x :: xs, [], ps, _, h1, h2 => by
    cases h2
    cases ps with
    | nil =>
      simp only [W.datas] at h1
      split at h1 <;> cases h1
    | cons q qs => rfl
  | x :: xs, y :: ys, ps, qs, h1, h2 => by
    simp only [W.datas] at h1 h2
    split at h1
    · rename_i p ps' e1 e2
      cases h1
      split at h2
      · rename_i q qs' f1 f2
        cases h2
        rw [PyData.eqvAll, W.eqvs, data_eqv x y p q e1 f1, datas_eqv xs ys ps' qs' e2 f2]
      · cases h2
    · cases h1
end
section
variable {K : PySem.W.Frag} {w : World} {F : Addr → Prop} {H : Hp}
mutual
theorem RV.dp : ∀ {x : W} {v : V} {p : PyData}, RV K w F H x v → x.data = some p → Dp K H v p
  | _, _, _, .non, e => by cases e; exact .non
  | _, _, _, .bl b, e => by cases e; exact .bl b
  | _, _, _, .int b, e => by cases e; exact .int b
  | _, _, _, .str b, e => by cases e; exact .str b
  | _, _, _, .fn _, e => by cases e
  | _, _, _, .ty _, e => by cases e
  | _, _, _, .scr _ _, e => by cases e
  | _, _, _, .dicK _ _ _, e => by cases e
  | _, _, _, .dicN _ _ _, e => by cases e
  | _, _, _, .ins _ _ _, e => by cases e
  | _, _, _, .tupK a r, e => by
    simp only [W.data, Option.map_eq_some_iff] at e
    obtain ⟨ps, e1, rfl⟩ := e
    exact .tup (.inr a) (RVs.dp r e1)
  | _, _, _, .tup a _ r, e => by
    simp only [W.data, Option.map_eq_some_iff] at e
    obtain ⟨ps, e1, rfl⟩ := e
    exact .tup (.inl a) (RVs.dp r e1)
  | _, _, _, .lst a _ r, e => by
    simp only [W.data, Option.map_eq_some_iff] at e
    obtain ⟨ps, e1, rfl⟩ := e
    exact .lst (.of a) (RVs.dp r e1)
theorem RVs.dp : ∀ {x : List W} {v : List V} {p : List PyData}, RVs K w F H x v → W.datas x = some p → DpAll K H v p
  | _, _, _, .nil, e => by cases e; exact .nil
  | _, _, p, .cons a b, e => by
    simp only [W.datas] at e
    split at e
    · rename_i q qs e1 e2
      cases e
      exact .cons (RV.dp a e1) (RVs.dp b e2)
    · cases e
end
theorem RR.dp {Z : Addr → Prop} {μ : List Addr} {st : Sto} {r : R} {x : W} {v : V} {p : PyData} (c : Cells K w Z μ st H) (e : wOf st r = some x) (h : RR K w (Fb Z μ) μ H r v) (hp : x.data = some p) : Dp K H v p := by
  rcases h.wS c e with h | ⟨xs, a, us, rfl, rfl, h1, h2⟩
  · exact h.dp hp
  · simp only [W.data, Option.map_eq_some_iff] at hp
    obtain ⟨ps, e1, rfl⟩ := hp
    exact .lst (.of h1) (h2.dp e1)
end
def eqW (x y : W) : Option Bool := match x, y with
  | .str a, .str b => some (decide (a = b))
  | x, y => if x.pl 16 && y.pl 16 then some (W.eqv x y) else none
def eqR (st : Sto) (x y : R) : Option R := match wOf st x, wOf st y with
  | some a, some b => (eqW a b).map fun k => .w (.bl k)
  | _, _ => none
def neR (st : Sto) (x y : R) : Option R := match wOf st x, wOf st y with
  | some a, some b => (eqW a b).map fun k => .w (.bl (!k))
  | _, _ => none
section
variable {X : Cx}
theorem eqW_cases {x y : W} {b : Bool} (h : eqW x y = some b) : (∃ i j, x = .str i ∧ y = .str j ∧ b = decide (i = j)) ∨ ∃ p q, x.data = some p ∧ y.data = some q ∧ SeqAt.shaped p = true ∧ SeqAt.shaped q = true ∧ PyData.eqv p q = b := by
  have fin : ∀ {x y : W}, (if (x.pl 16 && y.pl 16) = true then some (W.eqv x y) else none) = some b → ∃ p q, x.data = some p ∧ y.data = some q ∧ SeqAt.shaped p = true ∧ SeqAt.shaped q = true ∧ PyData.eqv p q = b := fun {x y} h => by
    obtain ⟨h1, h2⟩ := ite_some h
    obtain ⟨h3, h4⟩ := Bool.and_eq_true_iff.mp h1
    obtain ⟨p, e1, l1, d1⟩ := pl_data 16 x h3
    obtain ⟨q, e2, l2, d2⟩ := pl_data 16 y h4
    refine ⟨p, q, e1, e2, ?_, ?_, by rw [data_eqv x y p q e1 e2]; exact h2⟩
    · unfold SeqAt.shaped
      rw [l1, decide_eq_true (by omega)]; rfl
    · unfold SeqAt.shaped
      rw [l2, decide_eq_true (by omega)]; rfl
  unfold eqW at h
  split at h
  · cases h
    exact .inl ⟨_, _, rfl, rfl, rfl⟩
  · exact .inr (fin h)
theorem RR.strW {K : PySem.W.Frag} {w : World} {Z : Addr → Prop} {μ : List Addr} {st : Sto} {H : Hp} {r : R} {x : Str} {v : V} (c : Cells K w Z μ st H) (e : wOf st r = some (.str x)) (h : RR K w (Fb Z μ) μ H r v) : v = .str x := by
  rcases h.wS c e with h | ⟨xs, a, us, q, _⟩
  · cases h; rfl
  · cases q
theorem oq_eq (hu : X.A.units + 64 < cLine) : OpQ X (compareOp .Eq) eqR := by
  refine OpR.imp (OpR.or op_eq (op_eqD hu)) fun x y H Q h => ?_
  obtain ⟨Z, μ, st, r1, r2, r, c, h1, h2, e, q⟩ := h
  unfold eqR at e
  split at e
  · rename_i a b ea eb
    obtain ⟨k, ek, rfl⟩ := Option.map_eq_some_iff.mp e
    rcases eqW_cases ek with ⟨i, j, rfl, rfl, rfl⟩ | ⟨p, q2, e1, e2, s1, s2, rfl⟩
    · have z1 := h1.strW c ea
      have z2 := h2.strW c eb
      subst z1 z2
      refine .inl ⟨rfl, ?_⟩
      have := q _ _ (Nx.refl _ _) c (.w (.bl (decide (i = j))))
      have e3 : decide (V.str i = V.str j) = decide (i = j) := by
        by_cases z : i = j
        · subst z; simp
        · simp [z]
      rw [e3]; exact this
    · exact .inr ⟨p, q2, h1.dp c ea e1, h2.dp c eb e2, s1, s2, q _ _ (Nx.refl _ _) c (.w (.bl _))⟩
  · cases e
theorem oq_ne (hu : X.A.units + 64 < cLine) : OpQ X (compareOp .NotEq) neR := by
  refine OpR.imp (OpR.or op_ne (op_neD hu)) fun x y H Q h => ?_
  obtain ⟨Z, μ, st, r1, r2, r, c, h1, h2, e, q⟩ := h
  unfold neR at e
  split at e
  · rename_i a b ea eb
    obtain ⟨k, ek, rfl⟩ := Option.map_eq_some_iff.mp e
    rcases eqW_cases ek with ⟨i, j, rfl, rfl, rfl⟩ | ⟨p, q2, e1, e2, s1, s2, rfl⟩
    · have z1 := h1.strW c ea
      have z2 := h2.strW c eb
      subst z1 z2
      refine .inl ⟨rfl, ?_⟩
      have := q _ _ (Nx.refl _ _) c (.w (.bl (!decide (i = j))))
      have e3 : decide (V.str i = V.str j) = decide (i = j) := by
        by_cases z : i = j
        · subst z; simp
        · simp [z]
      rw [e3]; exact this
    · exact .inr ⟨p, q2, h1.dp c ea e1, h2.dp c eb e2, s1, s2, q _ _ (Nx.refl _ _) c (.w (.bl _))⟩
  · cases e
end
end Iv
end
section
set_option Elab.async false
set_option linter.all false
set_option maxRecDepth 100000
set_option maxHeartbeats 4000000
/-! Iv.R3: is, in, calls of built-ins. -/
namespace Iv
open PySem PySem.Spec PyProof.Rows L2

/-! ### is None -/
def isNon : R → Bool
  | .w .non => true
  | _ => false
def isR (_ : Sto) (x y : R) : Option R := match y with
  | .w .non => some (.w (.bl (isNon x)))
  | _ => none
def isnR (_ : Sto) (x y : R) : Option R := match y with
  | .w .non => some (.w (.bl (!isNon x)))
  | _ => none
section
variable {X : Cx} {K : PySem.W.Frag} {w : World} {F : Addr → Prop} {Z : Addr → Prop} {μ : List Addr} {H : Hp} {st : Sto}
theorem RR.isNon {r : R} {v : V} (h : RR K w F μ H r v) : decide (v = .non) = Iv.isNon r := by
  cases h with
  | loc _ => rfl
  | w h => cases h <;> rfl
theorem oq_is : OpQ X (compareOp .Is) isR := by
  refine OpR.imp op_isN fun x y H Q h => ?_
  obtain ⟨Z, μ, st, r1, r2, r, c, h1, h2, e, q⟩ := h
  unfold isR at e
  split at e
  · cases e
    refine ⟨h2.non, ?_⟩
    rw [h1.isNon]
    exact q _ _ (Nx.refl _ _) c (.w (.bl _))
  · cases e
theorem oq_isn : OpQ X (compareOp .IsNot) isnR := by
  refine OpR.imp op_notN fun x y H Q h => ?_
  obtain ⟨Z, μ, st, r1, r2, r, c, h1, h2, e, q⟩ := h
  unfold isnR at e
  split at e
  · cases e
    refine ⟨h2.non, ?_⟩
    rw [h1.isNon]
    exact q _ _ (Nx.refl _ _) c (.w (.bl _))
  · cases e
end

/-! ### in -/
def flatW : W → Bool
  | .non => true
  | .bl _ => true
  | .int _ => true
  | .str _ => true
  | _ => false
/-- the items of a list or tuple -/
def itemsOf (st : Sto) : R → Option (List W)
  | .w (.tup xs) => some xs
  | r => listOf st r
/-- a dict's entries (text and int keys) -/
def dictOf (st : Sto) : R → Option (List (W × W))
  | .w (.dic false kvs) => some kvs
  | .loc n => match st[n]? with
    | some (.dic false kvs) => some kvs
    | _ => none
  | _ => none
def rcdOf (st : Sto) : R → Option (List (Str × R))
  | .loc n => match st[n]? with
    | some (.rcd kvs) => some kvs
    | _ => none
  | _ => none
def findD (kvs : List (W × W)) (k : W) : Option W := (kvs.find? fun p => keyEq p.1 k).map (·.2)
def findF (kvs : List (Str × R)) (k : Str) : Option R := (kvs.find? fun p => decide (p.1 = k)).map (·.2)
/-- is x among the items? -/
def inItems (x : W) (ys : List W) : Option Bool :=
  if flatW x && ys.all flatW then some (ys.any fun y => W.eqv y x)
  else if x.pl 15 && ys.all (W.pl 15) then some (ys.any fun y => W.eqv y x) else none
def inB (st : Sto) (x y : R) : Option Bool := match x, y with
  | .w (.str a), .w (.str b) => some (!(Builtin.Str.occurrences b a 0 b.length 1).isEmpty)
  | x, y => match wOf st x with
    | none => none
    | some a => match itemsOf st y with
      | some ys => inItems a ys
      | none => match dictOf st y with
        | some kvs => if flatK a then some (findD kvs a).isSome else none
        | none => match rcdOf st y, a with
          | some fs, .str k => some (findF fs k).isSome
          | _, _ => none
def inR (st : Sto) (x y : R) : Option R := (inB st x y).map fun b => .w (.bl b)
def ninR (st : Sto) (x y : R) : Option R := (inB st x y).map fun b => .w (.bl (!b))
section
variable {K : PySem.W.Frag} {w : World} {F : Addr → Prop} {Z : Addr → Prop} {μ : List Addr} {H : Hp} {st : Sto}
theorem flat_V {x : W} {v : V} (h : RV K w F H x v) (f : flatW x = true) : flatV v = true ∧ ∀ y u, RV K w F H y u → flatW y = true → eqV u v = W.eqv y x := by
  cases h <;> first | (refine ⟨rfl, fun y u hy fy => ?_⟩; cases hy <;> first | rfl | cases fy) | cases f
theorem flat_all : ∀ {xs : List W} {us : List V}, RVs K w F H xs us → xs.all flatW = true → us.all flatV = true
  | _, _, .nil, _ => rfl
  | _, _, .cons a b, f => by
    rw [List.all_cons] at f ⊢
    obtain ⟨f1, f2⟩ := Bool.and_eq_true_iff.mp f
    rw [(flat_V a f1).1, flat_all b f2]; rfl
theorem flat_any {x : W} {v : V} (h : RV K w F H x v) (f : flatW x = true) : ∀ {xs : List W} {us : List V}, RVs K w F H xs us → xs.all flatW = true → inV v us = xs.any fun y => W.eqv y x
  | _, _, .nil, _ => rfl
  | _, _, .cons a b, g => by
    rw [List.all_cons] at g
    obtain ⟨g1, g2⟩ := Bool.and_eq_true_iff.mp g
    have e := flat_any h f b g2
    unfold inV at e ⊢
    rw [List.any_cons, List.any_cons, e, (flat_V h f).2 _ _ a g1]
theorem RR.itemsS {r : R} {xs : List W} {v : V} (c : Cells K w Z μ st H) (e : itemsOf st r = some xs) (h : RR K w (Fb Z μ) μ H r v) : ∃ a us, v = .ref a ∧ (SqL K H a us ∨ SqT K H a us) ∧ RVs K w (Fb Z μ) H xs us ∧ ∀ p, W.datas xs = some p → Dp K H v (.list p) ∨ Dp K H v (.tuple p) := by
  unfold itemsOf at e
  split at e
  · cases e
    obtain ⟨a, us, rfl, s, q⟩ := h.tupS
    exact ⟨a, us, rfl, .inr s, q, fun p hp => .inr (.tup s (q.dp hp))⟩
  · obtain ⟨a, us, rfl, s, q⟩ := h.listS c e
    exact ⟨a, us, rfl, .inl (.of s), q, fun p hp => .inl (.lst (.of s) (q.dp hp))⟩
theorem RKs.find : ∀ {kvs : List (W × W)} {kus : List (Key × V)}, RKs K w F H kvs kus → ∀ {a : W} {k : Key}, (a = match k with | .inl i => .int i | .inr x => .str x) →
    (∀ y, findD kvs a = some y → ∃ v, valV kus k = some v ∧ RV K w F H y v) ∧ (findD kvs a = none → valV kus k = none)
  | _, _, .nil, _, _, _ => ⟨fun y h => (nomatch h), fun _ => rfl⟩
  | _, _, .str (x := x) (y := y0) (r := r) (v := v0) (us := us) hv hr, a, k, e => by
    have ih := RKs.find hr e
    cases k with
    | inl i =>
      subst e
      have e1 : findD ((.str x, y0) :: r) (.int i) = findD r (.int i) := rfl
      rw [e1, valV_neg (by intro z; cases z)]
      exact ih
    | inr z =>
      subst e
      by_cases hx : x = z
      · subst hx
        have e1 : findD ((.str x, y0) :: r) (.str x) = some y0 := by simp [findD, keyEq]
        rw [e1, valV_pos rfl]
        exact ⟨fun y h => ⟨v0, rfl, Option.some.inj h ▸ hv⟩, fun h => nomatch h⟩
      · have e1 : findD ((.str x, y0) :: r) (.str z) = findD r (.str z) := by simp [findD, keyEq, hx]
        rw [e1, valV_neg (by intro q; exact hx (Sum.inr.inj q))]
        exact ih
  | _, _, .int (i := x) (y := y0) (r := r) (v := v0) (us := us) hv hr, a, k, e => by
    have ih := RKs.find hr e
    cases k with
    | inr i =>
      subst e
      have e1 : findD ((.int x, y0) :: r) (.str i) = findD r (.str i) := rfl
      rw [e1, valV_neg (by intro z; cases z)]
      exact ih
    | inl z =>
      subst e
      by_cases hx : x = z
      · subst hx
        have e1 : findD ((.int x, y0) :: r) (.int x) = some y0 := by simp [findD, keyEq]
        rw [e1, valV_pos rfl]
        exact ⟨fun y h => ⟨v0, rfl, Option.some.inj h ▸ hv⟩, fun h => nomatch h⟩
      · have e1 : findD ((.int x, y0) :: r) (.int z) = findD r (.int z) := by simp [findD, keyEq, hx]
        rw [e1, valV_neg (by intro q; exact hx (Sum.inl.inj q))]
        exact ih
theorem RRd.find : ∀ {kvs : List (Str × R)} {kus : List (Key × V)}, RRd K w F μ H kvs kus → ∀ (k : Str),
    (∀ y, findF kvs k = some y → ∃ v, valV kus (.inr k : Key) = some v ∧ RR K w F μ H y v) ∧ (findF kvs k = none → valV kus (.inr k : Key) = none)
  | _, _, .nil, _ => ⟨fun y h => (nomatch h), fun _ => rfl⟩
  | _, _, .cons (f := x) (x := y0) (r := r) (v := v0) (us := us) hv hr, z => by
    have ih := RRd.find hr z
    by_cases hx : x = z
    · subst hx
      have e1 : findF ((x, y0) :: r) x = some y0 := by simp [findF]
      rw [e1, valV_pos rfl]
      exact ⟨fun y h => ⟨v0, rfl, Option.some.inj h ▸ hv⟩, fun h => nomatch h⟩
    · have e1 : findF ((x, y0) :: r) z = findF r z := by simp [findF, hx]
      rw [e1, valV_neg (by intro q; exact hx (Sum.inr.inj q))]
      exact ih
theorem RR.dictS {r : R} {kvs : List (W × W)} {v : V} (c : Cells K w Z μ st H) (e : dictOf st r = some kvs) (h : RR K w (Fb Z μ) μ H r v) : ∃ a kus, v = .ref a ∧ Rd H a (.dK kus) ∧ RKs K w (Fb Z μ) H kvs kus := by
  cases h with
  | w h =>
    cases h <;> first | cases e | skip
    rename_i a us e1 _ r
    exact ⟨_, _, rfl, .inr ⟨_, e1⟩, r⟩
  | @loc n a h =>
    unfold dictOf at e
    simp only at e
    cases q : st[n]? with
    | none => rw [q] at e; cases e
    | some ce =>
      rw [q] at e
      cases ce <;> first | cases e | skip
      rename_i b kvs'
      cases b <;> first | cases e | skip
      cases c.ok n _ a q h with
      | dicK e1 r => exact ⟨_, _, rfl, .inl e1, r⟩
theorem RR.rcdS {r : R} {kvs : List (Str × R)} {v : V} (c : Cells K w Z μ st H) (e : rcdOf st r = some kvs) (h : RR K w (Fb Z μ) μ H r v) : ∃ a kus, v = .ref a ∧ H a = some (.dK kus) ∧ RRd K w (Fb Z μ) μ H kvs kus := by
  cases h with
  | w h => cases e
  | @loc n a h =>
    unfold rcdOf at e
    simp only at e
    cases q : st[n]? with
    | none => rw [q] at e; cases e
    | some ce =>
      rw [q] at e
      cases ce <;> first | cases e | skip
      cases c.ok n _ a q h with
      | rcd e1 r => exact ⟨_, _, rfl, e1, r⟩
/-- the key as HandS has it -/
theorem flatK_key {a : W} {v : V} (f : flatK a = true) (h : RV K w F H a v) : ∃ k : Key, v = kV k ∧ a = match k with | .inl i => .int i | .inr x => .str x := by
  cases h <;> first | cases f | skip
  · exact ⟨.inl _, rfl, rfl⟩
  · exact ⟨.inr _, rfl, rfl⟩
end
section
variable {X : Cx}
/-- x in a dict -/
theorem op_inDict (hu : X.A.units + 1 < cLine) : OpR X (compareOp .In) (fun x y H Q => ∃ a o, y = .ref a ∧ DGet H a x o ∧ Q (.bl o.isSome) H) := by
  intro pins s σ H x y v u Q I rx ry h
  obtain ⟨a, o, rfl, g, q⟩ := h
  cases ry
  exact d_in hu I g rx fun s' I' => ⟨.bl _, H, I', rfl, q⟩
theorem op_notInDict (hu : X.A.units + 1 < cLine) : OpR X (compareOp .NotIn) (fun x y H Q => ∃ a o, y = .ref a ∧ DGet H a x o ∧ Q (.bl (!o.isSome)) H) := by
  intro pins s σ H x y v u Q I rx ry h
  obtain ⟨a, o, rfl, g, q⟩ := h
  cases ry
  exact d_notIn hu I g rx fun s' I' => ⟨.bl _, H, I', rfl, q⟩
/-- x in a tuple of data -/
theorem op_inT (hu : X.A.units + 65 < cLine) : OpR X (compareOp .In) (fun x y H Q => ∃ d ds, Dp X.K H x d ∧ Dp X.K H y (.tuple ds) ∧ SeqAt.shaped d = true ∧ SeqAt.shaped (.list ds) = true ∧ Q (.bl (ds.any fun z => PyData.eqv z d)) H) := by
  intro pins s σ H x y v u Q I rx ry h
  obtain ⟨d, ds, hd, he, sd, se, q⟩ := h
  obtain ⟨as, r1⟩ := Dp.reads I d x v hd rx
  obtain ⟨bs, r2⟩ := Dp.reads I (.tuple ds) y u he ry
  exact SeqAt.in_tuple_reads r2 r1 (SeqAt.canLay_of_shaped se) (SeqAt.canLay_of_shaped sd) (room_in_shaped sd hu) ⟨.bl _, H, I, rfl, q⟩
theorem op_notInT (hu : X.A.units + 65 < cLine) : OpR X (compareOp .NotIn) (fun x y H Q => ∃ d ds, Dp X.K H x d ∧ Dp X.K H y (.tuple ds) ∧ SeqAt.shaped d = true ∧ SeqAt.shaped (.list ds) = true ∧ Q (.bl (!ds.any fun z => PyData.eqv z d)) H) := by
  intro pins s σ H x y v u Q I rx ry h
  obtain ⟨d, ds, hd, he, sd, se, q⟩ := h
  obtain ⟨as, r1⟩ := Dp.reads I d x v hd rx
  obtain ⟨bs, r2⟩ := Dp.reads I (.tuple ds) y u he ry
  exact SeqAt.notIn_tuple_reads r2 r1 (SeqAt.canLay_of_shaped se) (SeqAt.canLay_of_shaped sd) (room_in_shaped sd hu) ⟨.bl _, H, I, rfl, q⟩
theorem any_data (x : W) (d : PyData) (hx : x.data = some d) : ∀ (ys : List W) (ps : List PyData), W.datas ys = some ps → (ps.any fun z => PyData.eqv z d) = ys.any fun y => W.eqv y x
  | [], _, h => by cases h; rfl
  | y :: ys, ps, h => by
    simp only [W.datas] at h
    split at h
    · rename_i p ps' e1 e2
      cases h
      rw [List.any_cons, List.any_cons, data_eqv y x p d e1 hx, any_data x d hx ys ps' e2]
    · cases h
/-- the four ways of x in y -/
theorem inB_cases {K : PySem.W.Frag} {w : World} {Z : Addr → Prop} {μ : List Addr} {H : Hp} {st : Sto} {x y : R} {v u : V} {b : Bool} (c : Cells K w Z μ st H) (h1 : RR K w (Fb Z μ) μ H x v) (h2 : RR K w (Fb Z μ) μ H y u) (e : inB st x y = some b) :
    (∃ i j, v = .str i ∧ u = .str j ∧ b = !(Builtin.Str.occurrences j i 0 j.length 1).isEmpty) ∨
    (∃ p us, u = .ref p ∧ (SqL K H p us ∨ SqT K H p us) ∧ flatV v = true ∧ us.all flatV = true ∧ b = inV v us) ∨
    (∃ d ds, Dp K H v d ∧ (Dp K H u (.list ds) ∨ Dp K H u (.tuple ds)) ∧ SeqAt.shaped d = true ∧ SeqAt.shaped (.list ds) = true ∧ b = ds.any fun z => PyData.eqv z d) ∨
    (∃ a o, u = .ref a ∧ DGet H a v o ∧ b = o.isSome) := by
  unfold inB at e
  split at e
  · cases e
    exact .inl ⟨_, _, h1.str, h2.str, rfl⟩
  · cases ea : wOf st x with
    | none => rw [ea] at e; cases e
    | some a =>
      rw [ea] at e
      simp only at e
      cases ei : itemsOf st y with
      | some ys =>
        rw [ei] at e
        simp only at e
        obtain ⟨p, us, rfl, s, q, dp⟩ := h2.itemsS c ei
        unfold inItems at e
        by_cases hf : (flatW a && ys.all flatW) = true
        · rw [if_pos hf] at e
          cases e
          obtain ⟨f1, f2⟩ := Bool.and_eq_true_iff.mp hf
          have hv : RV K w (Fb Z μ) H a v := by
            rcases h1.wS c ea with h | ⟨_, _, _, rfl, _⟩
            · exact h
            · cases f1
          exact .inr (.inl ⟨p, us, rfl, s, (flat_V hv f1).1, flat_all q f2, (flat_any hv f1 q f2).symm⟩)
        · rw [if_neg hf] at e
          obtain ⟨hp, hb⟩ := ite_some e
          obtain ⟨p1, p2⟩ := Bool.and_eq_true_iff.mp hp
          obtain ⟨d, ed, l1, d1⟩ := pl_data 15 a p1
          obtain ⟨ds, eds, l2, d2⟩ := pl_datas 15 ys p2
          refine .inr (.inr (.inl ⟨d, ds, h1.dp c ea ed, dp ds eds, ?_, ?_, ?_⟩))
          · unfold SeqAt.shaped
            rw [l1, decide_eq_true (by omega)]; rfl
          · have z : PyData.depth (.list ds) ≤ 64 := by simp only [PyData.depth]; omega
            unfold SeqAt.shaped
            rw [decide_eq_true z, Bool.and_true]
            exact l2
          · rw [any_data a d ed ys ds eds]; exact hb.symm
      | none =>
        rw [ei] at e
        simp only at e
        cases ed : dictOf st y with
        | some kvs =>
          rw [ed] at e
          simp only at e
          obtain ⟨fk, eb⟩ := ite_some e
          obtain ⟨p, kus, rfl, rdd, rk⟩ := h2.dictS c ed
          have hv : RV K w (Fb Z μ) H a v := by
            rcases h1.wS c ea with h | ⟨_, _, _, rfl, _⟩
            · exact h
            · cases fk
          obtain ⟨k, rfl, ek⟩ := flatK_key fk hv
          obtain ⟨f1, f2⟩ := rk.find ek
          refine .inr (.inr (.inr ⟨p, valV kus k, rfl, .inl ⟨kus, k, rdd, rfl, rfl⟩, ?_⟩))
          rw [← eb]
          cases q : findD kvs a with
          | none => rw [f2 q]; rfl
          | some y' =>
            obtain ⟨v', e', _⟩ := f1 y' q
            rw [e']; rfl
        | none =>
          rw [ed] at e
          simp only at e
          split at e
          · rename_i fs k er
            cases e
            obtain ⟨p, kus, rfl, e1, rk⟩ := h2.rcdS c er
            have hv : v = .str k := h1.strW c ea
            subst hv
            obtain ⟨f1, f2⟩ := rk.find k
            refine .inr (.inr (.inr ⟨p, valV kus (.inr k : Key), rfl, .inl ⟨kus, .inr k, .inl e1, rfl, rfl⟩, ?_⟩))
            cases q : findF fs k with
            | none => rw [f2 q]; rfl
            | some y' =>
              obtain ⟨v', e', _⟩ := f1 y' q
              rw [e']; rfl
          · cases e
theorem oq_in (hu : X.A.units + 65 < cLine) : OpQ X (compareOp .In) inR := by
  refine OpR.imp (OpR.or op_in_str (OpR.or op_in_seq (OpR.or (op_inD hu) (OpR.or (op_inT hu) (op_inDict (by omega)))))) fun x y H Q h => ?_
  obtain ⟨Z, μ, st, r1, r2, r, c, h1, h2, e, q⟩ := h
  obtain ⟨b, eb, rfl⟩ := Option.map_eq_some_iff.mp e
  have q' := q _ _ (Nx.refl _ _) c (.w (.bl b))
  rcases inB_cases c h1 h2 eb with ⟨i, j, rfl, rfl, rfl⟩ | ⟨p, us, rfl, s, f1, f2, rfl⟩ | ⟨d, ds, d1, d2 | d2, s1, s2, rfl⟩ | ⟨a, o, rfl, g, rfl⟩
  · exact .inl ⟨i, j, rfl, rfl, q'⟩
  · exact .inr (.inl ⟨p, us, rfl, s, f1, f2, q'⟩)
  · exact .inr (.inr (.inl ⟨d, ds, d1, d2, s1, s2, q'⟩))
  · exact .inr (.inr (.inr (.inl ⟨d, ds, d1, d2, s1, s2, q'⟩)))
  · exact .inr (.inr (.inr (.inr ⟨a, o, rfl, g, q'⟩)))
theorem oq_nin (hu : X.A.units + 65 < cLine) : OpQ X (compareOp .NotIn) ninR := by
  refine OpR.imp (OpR.or op_notin_str (OpR.or op_notIn_seq (OpR.or (op_notInD hu) (OpR.or (op_notInT hu) (op_notInDict (by omega)))))) fun x y H Q h => ?_
  obtain ⟨Z, μ, st, r1, r2, r, c, h1, h2, e, q⟩ := h
  obtain ⟨b, eb, rfl⟩ := Option.map_eq_some_iff.mp e
  have q' := q _ _ (Nx.refl _ _) c (.w (.bl (!b)))
  rcases inB_cases c h1 h2 eb with ⟨i, j, rfl, rfl, rfl⟩ | ⟨p, us, rfl, s, f1, f2, rfl⟩ | ⟨d, ds, d1, d2 | d2, s1, s2, rfl⟩ | ⟨a, o, rfl, g, rfl⟩
  · exact .inl ⟨i, j, rfl, rfl, q'⟩
  · exact .inr (.inl ⟨p, us, rfl, s, f1, f2, q'⟩)
  · exact .inr (.inr (.inl ⟨d, ds, d1, d2, s1, s2, q'⟩))
  · exact .inr (.inr (.inr (.inl ⟨d, ds, d1, d2, s1, s2, q'⟩)))
  · exact .inr (.inr (.inr (.inr ⟨a, o, rfl, g, q'⟩)))
end
end Iv
end
section
set_option Elab.async false
set_option linter.all false
set_option maxRecDepth 100000
set_option maxHeartbeats 4000000
/-! Iv.R4: subscripts, slices, fields, calls of built-ins. -/
namespace Iv
open PySem PySem.Spec PyProof.Rows L2

/-! ### x[i] -/
def scrOf : R → Option (List Int)
  | .w (.scr ns) => some ns
  | _ => none
def ixR (st : Sto) (x y : R) : Option R := match x, y with
  | .w (.str z), .w (.int i) => if fits z.length then (atI z.cps.toList i).map fun c => .w (.str ⟨#[c]⟩) else none
  | x, .w (.int i) => match itemsOf st x with
    | some xs => (atI xs i).map .w
    | none => match scrOf x with
      | some ns => (atI ns i).map fun n => .w (.int n)
      | none => match dictOf st x with
        | some kvs => (findD kvs (.int i)).map .w
        | none => none
  | x, .w (.str k) => match dictOf st x with
    | some kvs => (findD kvs (.str k)).map .w
    | none => match rcdOf st x with
      | some fs => findF fs k
      | none => none
  | _, _ => none
section
variable {K : PySem.W.Frag} {w : World} {F : Addr → Prop} {Z : Addr → Prop} {μ : List Addr} {H : Hp} {st : Sto}
theorem RVs.atI {xs : List W} {us : List V} {i : Int} {x : W} (r : RVs K w F H xs us) (h : L2.atI xs i = some x) : ∃ v, L2.atI us i = some v ∧ RV K w F H x v := by
  unfold L2.atI at h ⊢
  rw [← r.length]
  obtain ⟨j, e1, e2⟩ := Option.bind_eq_some_iff.mp h
  rw [e1]
  exact r.get' e2
theorem atI_map {α β : Type} (f : α → β) (xs : List α) (i : Int) : L2.atI (xs.map f) i = (L2.atI xs i).map f := by
  unfold L2.atI
  rw [List.length_map]
  cases ixN xs.length i with
  | none => rfl
  | some j => simp
theorem RR.scrS {r : R} {ns : List Int} {v : V} (e : scrOf r = some ns) (h : RR K w F μ H r v) : ∃ a o, v = .ref a ∧ H a = some (.frz o (.lst (ns.map V.int))) := by
  unfold scrOf at e
  split at e
  · cases e
    cases h with
    | w h =>
      cases h with
      | scr e1 _ => exact ⟨_, _, rfl, e1⟩
  · cases e
theorem ix_dict {X : Cx} (hu : X.A.units + 1 < cLine) : IxR X (fun x y H Q => ∃ a v, x = .ref a ∧ DGet H a y (some v) ∧ Q v H) := by
  intro value slice pins s σ H x y v u Q I rx ry h hs
  obtain ⟨a, v', rfl, g, q⟩ := h
  cases rx
  exact tail_any (dict_typeIs I g) PySem.F.slot_dict_getitem.lookup (d_getItem hu I g ry fun w' s3 I3 rw' => ⟨v', H, I3, rw', q⟩) hs
theorem IxR.imp {X : Cx} {r r' : R2} (h : IxR X r) (i : ∀ x y H Q, r' x y H Q → r x y H Q) : IxR X r' := fun value slice pins s σ H x y v u Q I rx ry q hs => h value slice pins s σ H x y v u Q I rx ry (i x y H Q q) hs
theorem iq_ix {X : Cx} (hu : X.A.units + 1 < cLine) : IxR X (rdO X.K X.w ixR) := by
  refine IxR.imp (IxR.or ix_seq (ix_dict hu)) fun x y H Q h => ?_
  obtain ⟨Z, μ, st, r1, r2, r, c, h1, h2, e, q⟩ := h
  have fin : ∀ {x' : W}, r = .w x' → ∀ v, RV X.K X.w (Fb Z μ) H x' v → Q v H := fun {x'} e v rv => by subst e; exact q _ _ (Nx.refl _ _) c (.w rv)
  unfold ixR at e
  split at e
  · obtain ⟨hf, e⟩ := ite_some' e
    obtain ⟨ch, e1, rfl⟩ := Option.map_eq_some_iff.mp e
    exact .inl (.inr (.inr ⟨_, _, ch, h1.str, h2.int, fits_le hf, e1, fin rfl _ (.str _)⟩))
  · rename_i i _
    cases ei : itemsOf st r1 with
    | some xs =>
      rw [ei] at e
      obtain ⟨x', e1, rfl⟩ := Option.map_eq_some_iff.mp e
      obtain ⟨a, us, rfl, sq, rvs, _⟩ := h1.itemsS c ei
      obtain ⟨v', e2, rv⟩ := rvs.atI e1
      rcases sq with sq | sq
      · exact .inl (.inl ⟨a, us, i, v', rfl, h2.int, sq, e2, fin rfl _ rv⟩)
      · exact .inl (.inr (.inl ⟨a, us, i, v', rfl, h2.int, sq, e2, fin rfl _ rv⟩))
    | none =>
      rw [ei] at e
      simp only at e
      cases es : scrOf r1 with
      | some ns =>
        rw [es] at e
        obtain ⟨x', e1, rfl⟩ := Option.map_eq_some_iff.mp e
        obtain ⟨a, o, rfl, h3⟩ := h1.scrS es
        refine .inl (.inl ⟨a, ns.map V.int, i, .int x', rfl, h2.int, .inl (.inr ⟨o, h3⟩), ?_, fin rfl _ (.int _)⟩)
        rw [atI_map, e1]; rfl
      | none =>
        rw [es] at e
        simp only at e
        cases ed : dictOf st r1 with
        | none => rw [ed] at e; cases e
        | some kvs =>
          rw [ed] at e
          obtain ⟨x', e1, rfl⟩ := Option.map_eq_some_iff.mp e
          obtain ⟨a, kus, rfl, rdd, rk⟩ := h1.dictS c ed
          obtain ⟨f1, _⟩ := rk.find (k := .inl i) rfl
          obtain ⟨v', e2, rv⟩ := f1 _ e1
          have hy := h2.int
          subst hy
          exact .inr ⟨a, v', rfl, .inl ⟨kus, .inl i, rdd, rfl, e2.symm⟩, fin rfl _ rv⟩
  · rename_i k
    have hy := h2.str
    subst hy
    cases ed : dictOf st r1 with
    | some kvs =>
      rw [ed] at e
      obtain ⟨x', e1, rfl⟩ := Option.map_eq_some_iff.mp e
      obtain ⟨a, kus, rfl, rdd, rk⟩ := h1.dictS c ed
      obtain ⟨f1, _⟩ := rk.find (k := .inr k) rfl
      obtain ⟨v', e2, rv⟩ := f1 _ e1
      exact .inr ⟨a, v', rfl, .inl ⟨kus, .inr k, rdd, rfl, e2.symm⟩, fin rfl _ rv⟩
    | none =>
      rw [ed] at e
      simp only at e
      cases er : rcdOf st r1 with
      | none => rw [er] at e; cases e
      | some fs =>
        rw [er] at e
        obtain ⟨a, kus, rfl, h3, rk⟩ := h1.rcdS c er
        obtain ⟨f1, _⟩ := rk.find k
        obtain ⟨v', e2, rv⟩ := f1 _ e
        exact .inr ⟨a, v', rfl, .inl ⟨kus, .inr k, .inl h3, rfl, e2.symm⟩, q _ _ (Nx.refl _ _) c rv⟩
  · cases e
theorem q_ix {X : Cx} {E : WX} {a b : Expr} {fa fb : Env → M R} {pos : Pos} (hu : X.A.units + 1 < cLine) (ha : QE X E a fa) (hb : QE X E b fb) (hs : PlainIx b := by exact fun _ _ => rfl) : QE X E (.Subscript a b pos) (e2 ixR fa fb) :=
  (pe_ix (iq_ix hu) ha hb hs).imp fun _ _ _ h => op_read h
end

/-! ### x[lo:hi] -/
def cutL {α : Type} (xs : List α) (lo hi : Option Int) : List α := (xs.drop (HT.sIx xs.length 0 lo)).take (HT.sIx xs.length xs.length hi - HT.sIx xs.length 0 lo)
def slR (st : Sto) (x : R) (lo hi : Option Int) : Option R := match x with
  | .w (.str z) => if fits z.length then some (.w (.str (cutS z lo hi))) else none
  | .w (.tup xs) => some (.w (.tup (cutL xs lo hi)))
  | x => match listOf st x with
    | some xs => some (.w (.lst (cutL xs lo hi)))
    | none => none
def oNo : Env → M (Option Int) := fun _ => ret none
def oSome (f : Env → M R) : Env → M (Option Int) := fun ρ => bnd (f ρ) fun r => match r with
  | .w (.int i) => ret (some i)
  | _ => fail
def eSl (a : Env → M R) (lo hi : Env → M (Option Int)) : Env → M R := fun ρ => bnd (a ρ) fun x => bnd (lo ρ) fun l => bnd (hi ρ) fun h st => ofO (slR st x l h) st
section
variable {X : Cx} {E : WX}
def rdP (K : PySem.W.Frag) (w : World) (E : WX) (f : Env → M (Option Int)) : TO := fun σ H Q => ∃ Z μ st ρ, Cells K w Z μ st H ∧ RS K w (Fb Z μ) μ H ρ σ ∧ Sat K w E Z μ H σ (f ρ st) fun o _ _ H' => Q o H'
theorem rdP_step {K : PySem.W.Frag} {w : World} {Z : Addr → Prop} {μ : List Addr} {st : Sto} {H : Hp} {σ : L2.St} {ρ : Env} {f : Env → M (Option Int)} {β : Type} {k : Option Int → M β} {P : β → Sto → List Addr → Hp → Prop} {Q : Option Int → Hp → Prop}
    (c : Cells K w Z μ st H) (s : RS K w (Fb Z μ) μ H ρ σ) (h : Sat K w E Z μ H σ (bnd (f ρ) k st) P)
    (hk : ∀ r1 st1 μ1 H1, Nx μ H μ1 H1 → Cells K w Z μ1 st1 H1 → RS K w (Fb Z μ1) μ1 H1 ρ σ → Sat K w E Z μ1 H1 σ (k r1 st1) P → Q r1 H1) : rdP K w E f σ H Q :=
  ⟨Z, μ, st, ρ, c, s, h.bnd.mono fun r1 st1 μ1 H1 nx c1 q => hk r1 st1 μ1 H1 nx c1 (s.nx nx) q⟩
abbrev QO (X : Cx) (E : WX) (e : Option Expr) (f : Env → M (Option Int)) : Prop := PO X e (rdP X.K X.w E f)
theorem _root_.L2.PO.imp {e : Option Expr} {t t' : TO} (h : PO X e t) (i : ∀ σ H Q, t' σ H Q → t σ H Q) : PO X e t' := ⟨fun pins s σ H Q I q => h.run pins s σ H Q I (i σ H Q q)⟩
theorem q_ono : QO X E none oNo := po_none.imp fun σ H Q ⟨Z, μ, st, ρ, c, s, q⟩ => q.ok c
theorem q_osome {e : Expr} {f : Env → M R} (h : QE X E e f) : QO X E (some e) (oSome f) := (po_some h).imp fun σ H Q h => by
  obtain ⟨Z, μ, st, ρ, c, s, q⟩ := h
  refine rd_step (f := f) c s q fun r1 st1 μ1 H1 v1 n1 c1 s1 rv1 q1 => ?_
  split at q1
  · exact ⟨_, rv1.int, q1.ok c1⟩
  · exact False.elim q1
theorem RVs.cut {K : PySem.W.Frag} {w : World} {F : Addr → Prop} {H : Hp} {xs : List W} {us : List V} (r : RVs K w F H xs us) (lo hi : Option Int) : RVs K w F H (cutL xs lo hi) (cutV us lo hi) := by
  unfold cutL cutV
  rw [r.length]
  exact (r.drop _).take _
theorem SlR.imp {r r' : V → Option Int → Option Int → Hp → VK → Prop} (h : SlR X r) (i : ∀ x lo hi H Q, r' x lo hi H Q → r x lo hi H Q) : SlR X r' := fun pins s σ H x v vl vu lo hi sl Q I rx hs pl pu q => h pins s σ H x v vl vu lo hi sl Q I rx hs pl pu (i x lo hi H Q q)
def rdSl (K : PySem.W.Frag) (w : World) : V → Option Int → Option Int → Hp → VK → Prop := fun x lo hi H Q => ∃ Z μ st r1 r, Cells K w Z μ st H ∧ RR K w (Fb Z μ) μ H r1 x ∧ slR st r1 lo hi = some r ∧
  ∀ v H', Nx μ H μ H' → Cells K w Z μ st H' → RR K w (Fb Z μ) μ H' r v → Q v H'
theorem iq_sl : SlR X (rdSl X.K X.w) := by
  refine SlR.imp (SlR.or sl_str (SlR.or sl_tupA sl_list)) fun x lo hi H Q h => ?_
  obtain ⟨Z, μ, st, r1, r, c, h1, e, q⟩ := h
  unfold slR at e
  split at e
  · obtain ⟨hf, e⟩ := ite_some e
    cases e
    exact .inl ⟨_, h1.str, fits_le hf, q _ _ (Nx.refl _ _) c (.w (.str _))⟩
  · rename_i xs
    cases e
    obtain ⟨a, us, rfl, sq, rvs⟩ := h1.tupS
    refine .inr (.inl ⟨a, us, rfl, sq, fun z => ?_, fun z p hp => q _ _ (Nx.new hp) (c.new hp) (RR.newTup c hp (rvs.cut lo hi))⟩)
    have e1 : cutL xs lo hi = xs := by
      unfold cutL
      rw [rvs.length, z.1, z.2]
      rw [List.drop_zero, Nat.sub_zero, ← rvs.length, List.take_length]
    rw [e1] at q
    exact q _ _ (Nx.refl _ _) c h1
  · cases el : listOf st r1 with
    | none => rw [el] at e; cases e
    | some xs =>
      rw [el] at e
      cases e
      obtain ⟨a, us, rfl, h3, rvs⟩ := h1.listS c el
      exact .inr (.inr ⟨a, us, rfl, .of h3, fun p hp => q _ _ (Nx.new hp) (c.new hp) (RR.newLst c hp (rvs.cut lo hi))⟩)
theorem q_sl {a : Expr} {lo hi : Option Expr} {fa : Env → M R} {fl fh : Env → M (Option Int)} {p2 pos : Pos} (ha : QE X E a fa) (hl : QO X E lo fl) (hh : QO X E hi fh) : QE X E (.Subscript a (.Slice lo hi none p2) pos) (eSl fa fl fh) :=
  (pe_slice iq_sl ha hl hh).imp fun σ H Q h => by
    obtain ⟨Z, μ, st, ρ, c, s, q⟩ := h
    refine rd_step (f := fa) c s q fun r1 st1 μ1 H1 v1 n1 c1 s1 rv1 q1 => ?_
    refine rdP_step (f := fl) c1 s1 q1 fun r2 st2 μ2 H2 n2 c2 s2 q2 => ?_
    refine rdP_step (f := fh) c2 s2 q2 fun r3 st3 μ3 H3 n3 c3 s3 q3 => ?_
    obtain ⟨r, er, q4⟩ := q3.ofO
    exact ⟨Z, μ3, st3, r1, r, c3, (rv1.nx n2).nx n3, er, fun v H' n c' rv => q4 μ3 H' n c' v rv⟩
end

/-! ### x.f -/
def fldR (cn f : Str) (st : Sto) (x : R) : Option R := match x with
  | .w (.ins c fs) => if c = cn then (fs.lookup f).map .w else none
  | .loc n => match st[n]? with
    | some (.ins c fs) => if c = cn then fs.lookup f else none
    | _ => none
  | _ => none
section
variable {X : Cx} {E : WX} {K : PySem.W.Frag} {w : World} {F : Addr → Prop} {Z : Addr → Prop} {μ : List Addr} {H : Hp} {st : Sto}
theorem RFs.look : ∀ {fs : List (Str × W)} {us : List (Str × V)} {f : Str} {y : W}, RFs K w F H fs us → fs.lookup f = some y → ∃ v, us.lookup f = some v ∧ RV K w F H y v
  | _, _, _, _, .nil, e => by cases e
  | _, _, f, y, .cons (f := g) (r := r) (us := us) a b, e => by
    rw [List.lookup_cons] at e ⊢
    cases q : (f == g) with
    | true =>
      rw [q] at e
      cases e
      exact ⟨_, rfl, a⟩
    | false =>
      rw [q] at e
      exact RFs.look b e
theorem RRf.look : ∀ {fs : List (Str × R)} {us : List (Str × V)} {f : Str} {y : R}, RRf K w F μ H fs us → fs.lookup f = some y → ∃ v, us.lookup f = some v ∧ RR K w F μ H y v
  | _, _, _, _, .nil, e => by cases e
  | _, _, f, y, .cons (f := g) (r := r) (us := us) a b, e => by
    rw [List.lookup_cons] at e ⊢
    cases q : (f == g) with
    | true =>
      rw [q] at e
      cases e
      exact ⟨_, rfl, a⟩
    | false =>
      rw [q] at e
      exact RRf.look b e
theorem RR.fld {cn f : Str} {r y : R} {v : V} (c : Cells K w Z μ st H) (e : fldR cn f st r = some y) (h : RR K w (Fb Z μ) μ H r v) : ∃ a dx us u, v = .ref a ∧ H a = some (.ins (He.ga K cn) dx us) ∧ us.lookup f = some u ∧ RR K w (Fb Z μ) μ H y u := by
  cases h with
  | w h =>
    cases h <;> first | cases e | skip
    rename_i a dx c fs us h1 h2 h3
    unfold fldR at e
    obtain ⟨hc, ee⟩ := ite_some'' e
    subst hc
    obtain ⟨x, e1, rfl⟩ := Option.map_eq_some_iff.mp ee
    obtain ⟨u, e2, rv⟩ := h3.look e1
    exact ⟨a, dx, us, u, rfl, h1, e2, .w rv⟩
  | @loc n a h =>
    unfold fldR at e
    simp only at e
    cases q : st[n]? with
    | none => rw [q] at e; cases e
    | some ce =>
      rw [q] at e
      cases ce <;> first | cases e | skip
      obtain ⟨hc, ee⟩ := ite_some'' e
      subst hc
      cases c.ok n _ a q h with
      | ins h1 h3 =>
        obtain ⟨u, e2, rv⟩ := h3.look ee
        exact ⟨a, _, _, u, rfl, h1, e2, rv⟩
theorem q_fld {cn f : Str} {e : Expr} {g : Env → M R} {pos : Pos} (hc : Cls X.K (He.ga X.K cn)) (hn : NoAttr X.K (He.ga X.K cn) f) (h : QE X E e g) (hb : attributeBase e f X.env (eval e X.env) = eval e X.env := by rfl) : QE X E (.Attribute e f pos) (e1 (fldR cn f) g) :=
  (pe_fld h hb).imp fun σ H Q h => by
    obtain ⟨Z, μ, st, ρ, c, s, q⟩ := h
    refine rd_step (f := g) c s q fun r1 st1 μ1 H1 v1 n1 c1 s1 rv1 q1 => ?_
    obtain ⟨r, er, q2⟩ := q1.ofO
    obtain ⟨a, dx, us, u, rfl, h1, e2, rv⟩ := rv1.fld c1 er
    exact ⟨a, _, dx, us, u, rfl, h1, hc, hn, e2, q2.ok c1 u rv⟩
end
end Iv
end
section
set_option Elab.async false
set_option linter.all false
set_option maxRecDepth 100000
set_option maxHeartbeats 4000000
/-! Iv.R5: calls of built-ins by their names. -/
namespace Iv
open PySem PySem.Spec PyProof.Rows L2
section
variable {X : Cx} {E : WX}
def rdC (K : PySem.W.Frag) (w : World) (f : Sto → List R → Option R) : List V → Hp → VK → Prop := fun vs H Q => ∃ Z μ st rs r, Cells K w Z μ st H ∧ RRs K w (Fb Z μ) μ H rs vs ∧ f st rs = some r ∧
  ∀ v H', Nx μ H μ H' → Cells K w Z μ st H' → RR K w (Fb Z μ) μ H' r v → Q v H'
theorem CallR.imp {f : Value} {r r' : List V → Hp → VK → Prop} (h : CallR X f r) (i : ∀ xs H Q, r' xs H Q → r xs H Q) : CallR X f r' := fun pins s σ H xs us Q I rv q => h pins s σ H xs us Q I rv (i xs H Q q)
theorem args_read {K : PySem.W.Frag} {w : World} {f : Sto → List R → Option R} {g : Env → M (List R)} {σ : L2.St} {H : Hp} {Q : VK} (h : rd K w E (eA f g) σ H Q) : tCB (rdC K w f) (rdA K w E g) σ H Q := by
  obtain ⟨Z, μ, st, ρ, c, s, q⟩ := h
  refine rdA_step (f := g) c s q fun rs st1 μ1 H1 vs n1 c1 s1 rv1 q1 => ?_
  obtain ⟨r, er, q2⟩ := q1.ofO
  exact ⟨Z, μ1, st1, rs, r, c1, rv1, er, fun v H' n c' rv => q2 μ1 H' n c' v rv⟩
theorem q_callB {f : Sto → List R → Option R} {g : Env → M (List R)} {id : String} {x : Str} {e : Expr} {es : List Expr} {p pos : Pos} (hc : CallR X (.builtin id) (rdC X.K X.w f)) (hg : Gl X x) (hm : X.mg x = none) (hv : bootBuiltins x = some (.builtin id)) (ha : QA X E (e :: es) g)
    (hn : x ≠ "__name__" := by decide) (hdb : (x == ("__debug__" : Str)) = false := by decide) (hs : starEach (e :: es) X.env = (false, eval e X.env) :: starEach es X.env := by rfl) (hpl : (backTo pos (starEach es X.env)).any (·.1) = false := by rfl) :
    QE X E (.Call (.Name x p) (e :: es) [] pos) (eA f g) := (pe_callB hc hg hm hv ha hn hdb hs hpl).imp fun _ _ _ h => args_read h
theorem q_callTy {f : Sto → List R → Option R} {g : Env → M (List R)} {T : String} {x : Str} {e : Expr} {es : List Expr} {p pos : Pos} (hc : CallR X (.type T) (rdC X.K X.w f)) (hg : Gl X x) (hm : X.mg x = none) (hv : bootBuiltins x = some (.type T)) (ha : QA X E (e :: es) g)
    (hn : x ≠ "__name__" := by decide) (hdb : (x == ("__debug__" : Str)) = false := by decide) (hs : starEach (e :: es) X.env = (false, eval e X.env) :: starEach es X.env := by rfl) (hpl : (backTo pos (starEach es X.env)).any (·.1) = false := by rfl) :
    QE X E (.Call (.Name x p) (e :: es) [] pos) (eA f g) := (pe_callTy hc hg hm hv ha hn hdb hs hpl).imp fun _ _ _ h => args_read h
/-- a built-in class as a value -/
theorem q_ty {x : Str} {n : String} {pos : Pos} (hg : Gl X x) (hm : X.mg x = none) (hv : bootBuiltins x = some (.type n)) (hn : x ≠ "__name__" := by decide) (hd : (x == ("__debug__" : Str)) = false := by decide) : QE X E (.Name x pos) (eC (.ty n)) :=
  q_const (pe_bltn hg hm hv (show RelV (.ty n) (.type n) from rfl) hn hd) fun _ _ => .ty n
/-- a def, a class of the text as a value -/
theorem q_fn {x : Str} {pos : Pos} (hg : Gl X x) (hm : X.mg x = some (.ref (He.ga X.K x))) (hd : (x == ("__debug__" : Str)) = false := by decide) : QE X E (.Name x pos) (eC (.fn x)) :=
  q_const (pe_glob hg hm (show RelV (.ref _) (.ref _) from rfl) hd) fun _ _ => .fn x
/-- a module's constant -/
theorem q_gint {x : Str} {i : Int} {pos : Pos} (hg : Gl X x) (hm : ∃ t, X.mg x = some (.int i t)) (hd : (x == ("__debug__" : Str)) = false := by decide) : QE X E (.Name x pos) (eC (.int i)) := by
  obtain ⟨t, hm⟩ := hm
  exact q_const (pe_glob hg hm (show RelV (.int i) (.int i t) from ⟨t, rfl⟩) hd) fun _ _ => .int i
theorem q_gstr {x : Str} {i : Str} {pos : Pos} (hg : Gl X x) (hm : ∃ t, X.mg x = some (.str i t)) (hd : (x == ("__debug__" : Str)) = false := by decide) : QE X E (.Name x pos) (eC (.str i)) := by
  obtain ⟨t, hm⟩ := hm
  exact q_const (pe_glob hg hm (show RelV (.str i) (.str i t) from ⟨t, rfl⟩) hd) fun _ _ => .str i
end

/-! ### len -/
def lenR (st : Sto) (xs : List R) : Option R := match xs with
  | [.w (.str z)] => if fits z.length then some (.w (.int z.length)) else none
  | [x] => match itemsOf st x with
    | some ys => some (.w (.int ys.length))
    | none => match scrOf x with
      | some ns => some (.w (.int ns.length))
      | none => match dictOf st x with
        | some kvs => some (.w (.int kvs.length))
        | none => match rcdOf st x with
          | some fs => some (.w (.int fs.length))
          | none => none
  | _ => none
section
variable {X : Cx} {K : PySem.W.Frag} {w : World} {F : Addr → Prop} {Z : Addr → Prop} {μ : List Addr} {H : Hp} {st : Sto}
theorem RRs.one {r : R} {vs : List V} (h : RRs K w F μ H [r] vs) : ∃ v, vs = [v] ∧ RR K w F μ H r v := by
  cases h with
  | cons a b => cases b; exact ⟨_, rfl, a⟩
theorem RRs.two {r r' : R} {vs : List V} (h : RRs K w F μ H [r, r'] vs) : ∃ v v', vs = [v, v'] ∧ RR K w F μ H r v ∧ RR K w F μ H r' v' := by
  cases h with
  | cons a b =>
    cases b with
    | cons a' b' => cases b'; exact ⟨_, _, rfl, a, a'⟩
theorem RKs.length : ∀ {kvs : List (W × W)} {kus : List (Key × V)}, RKs K w F H kvs kus → kvs.length = kus.length
  | _, _, .nil => rfl
  | _, _, .str _ b => by simp [RKs.length b]
  | _, _, .int _ b => by simp [RKs.length b]
theorem RRd.length : ∀ {kvs : List (Str × R)} {kus : List (Key × V)}, RRd K w F μ H kvs kus → kvs.length = kus.length
  | _, _, .nil => rfl
  | _, _, .cons _ b => by simp [RRd.length b]
theorem call_lenDR : CallR X (.builtin "len") (fun xs H Q => ∃ a kvs, xs = [V.ref a] ∧ Rd H a (.dK kvs) ∧ Q (.int kvs.length) H) := by
  intro pins s σ H xs us Q I r h
  obtain ⟨a, kvs, rfl, ha, q⟩ := h
  obtain ⟨u, rfl, ru⟩ := vals1 r
  cases ru
  exact d_len I ha fun t s' I' => ⟨.int kvs.length, H, I', ⟨t, rfl⟩, q⟩
theorem cq_len : CallR X (.builtin "len") (rdC X.K X.w lenR) := by
  refine CallR.imp (CallR.or call_len_str (CallR.or call_len_seq call_lenDR)) fun xs H Q h => ?_
  obtain ⟨Z, μ, st, rs, r, c, h1, e, q⟩ := h
  have fin : ∀ {n : Int}, r = .w (.int n) → Q (.int n) H := fun {n} e => by subst e; exact q _ _ (Nx.refl _ _) c (.w (.int n))
  unfold lenR at e
  split at e
  · obtain ⟨hf, e⟩ := ite_some e
    obtain ⟨v, rfl, h2⟩ := h1.one
    exact .inl ⟨_, by rw [h2.str], fits_le hf, fin e.symm⟩
  · rename_i x _
    obtain ⟨v, rfl, h2⟩ := h1.one
    cases ei : itemsOf st x with
    | some ys =>
      rw [ei] at e
      obtain ⟨a, us, rfl, sq, rvs, _⟩ := h2.itemsS c ei
      exact .inr (.inl ⟨a, us, rfl, sq, by rw [← rvs.length]; exact fin (Option.some.inj e).symm⟩)
    | none =>
      rw [ei] at e
      simp only at e
      cases es : scrOf x with
      | some ns =>
        rw [es] at e
        obtain ⟨a, o, rfl, h3⟩ := h2.scrS es
        exact .inr (.inl ⟨a, ns.map V.int, rfl, .inl (.inl (.inr ⟨o, h3⟩)), by rw [List.length_map]; exact fin (Option.some.inj e).symm⟩)
      | none =>
        rw [es] at e
        simp only at e
        cases ed : dictOf st x with
        | some kvs =>
          rw [ed] at e
          obtain ⟨a, kus, rfl, rdd, rk⟩ := h2.dictS c ed
          exact .inr (.inr ⟨a, kus, rfl, rdd, by rw [← rk.length]; exact fin (Option.some.inj e).symm⟩)
        | none =>
          rw [ed] at e
          simp only at e
          cases er : rcdOf st x with
          | none => rw [er] at e; cases e
          | some fs =>
            rw [er] at e
            obtain ⟨a, kus, rfl, h3, rk⟩ := h2.rcdS c er
            exact .inr (.inr ⟨a, kus, rfl, .inl h3, by rw [← rk.length]; exact fin (Option.some.inj e).symm⟩)
  · cases e
end

/-! ### all, any -/
def blW : W → Option Bool
  | .bl b => some b
  | _ => none
def allR (st : Sto) (xs : List R) : Option R := match xs with
  | [x] => match listOf st x with
    | some ys => (mapO blW ys).map fun bs => .w (.bl (bs.all id))
    | none => none
  | _ => none
def anyR (st : Sto) (xs : List R) : Option R := match xs with
  | [x] => match listOf st x with
    | some ys => (mapO blW ys).map fun bs => .w (.bl (bs.any id))
    | none => none
  | _ => none
section
variable {X : Cx} {K : PySem.W.Frag} {w : World} {F : Addr → Prop} {Z : Addr → Prop} {μ : List Addr} {H : Hp} {st : Sto}
theorem RVs.bls : ∀ {ys : List W} {us : List V} {bs : List Bool}, RVs K w F H ys us → mapO blW ys = some bs → us = bs.map V.bl
  | _, _, _, .nil, e => by cases e; rfl
  | _, _, _, .cons a b, e => by
    simp only [mapO] at e
    split at e
    · rename_i y ys e1 e2
      cases e
      rw [RVs.bls b e2]
      cases a <;> first | (cases e1; done) | (cases e1; rfl)
    · cases e
theorem cq_all (hc : X.calm = true) : CallR X (.builtin "all") (rdC X.K X.w allR) := by
  refine CallR.imp (cr_all hc) fun xs H Q h => ?_
  obtain ⟨Z, μ, st, rs, r, c, h1, e, q⟩ := h
  unfold allR at e
  split at e
  · rename_i x
    obtain ⟨v, rfl, h2⟩ := h1.one
    cases el : listOf st x with
    | none => rw [el] at e; cases e
    | some ys =>
      rw [el] at e
      obtain ⟨bs, e1, rfl⟩ := Option.map_eq_some_iff.mp e
      obtain ⟨a, us, rfl, h3, rvs⟩ := h2.listS c el
      have := rvs.bls e1
      subst this
      exact ⟨a, bs, rfl, .of h3, q _ _ (Nx.refl _ _) c (.w (.bl _))⟩
  · cases e
theorem cq_any (hc : X.calm = true) : CallR X (.builtin "any") (rdC X.K X.w anyR) := by
  refine CallR.imp (cr_any hc) fun xs H Q h => ?_
  obtain ⟨Z, μ, st, rs, r, c, h1, e, q⟩ := h
  unfold anyR at e
  split at e
  · rename_i x
    obtain ⟨v, rfl, h2⟩ := h1.one
    cases el : listOf st x with
    | none => rw [el] at e; cases e
    | some ys =>
      rw [el] at e
      obtain ⟨bs, e1, rfl⟩ := Option.map_eq_some_iff.mp e
      obtain ⟨a, us, rfl, h3, rvs⟩ := h2.listS c el
      have := rvs.bls e1
      subst this
      exact ⟨a, bs, rfl, .of h3, q _ _ (Nx.refl _ _) c (.w (.bl _))⟩
  · cases e
end

/-! ### int, str, tuple, list, min -/
def intR (_ : Sto) (xs : List R) : Option R := match xs with
  | [.w (.int i)] => some (.w (.int i))
  | [.w (.bl b)] => some (.w (.int (if b then 1 else 0)))
  | [.w (.str z)] => if decide (z.length ≤ 640) then (PySem.intText? z).map fun n => .w (.int n) else none
  | _ => none
def strR (_ : Sto) (xs : List R) : Option R := match xs with
  | [.w (.int i)] => if decide (i.natAbs.log2 < 1920) then some (.w (.str (toString i))) else none
  | _ => none
def tupleR (st : Sto) (xs : List R) : Option R := match xs with
  | [x] => (itemsOf st x).map fun ys => .w (.tup ys)
  | _ => none
def listR (st : Sto) (xs : List R) : Option R := match xs with
  | [x] => (itemsOf st x).map fun ys => .w (.lst ys)
  | _ => none
def minR (_ : Sto) (xs : List R) : Option R := match xs with
  | [.w (.int i), .w (.int j)] => some (.w (.int (if j < i then j else i)))
  | _ => none
section
variable {X : Cx} {K : PySem.W.Frag} {w : World} {F : Addr → Prop} {Z : Addr → Prop} {μ : List Addr} {H : Hp} {st : Sto}
theorem cq_int : CallR X (.type "int") (rdC X.K X.w intR) := by
  refine CallR.imp (CallR.or call_int1 call_int_str) fun xs H Q h => ?_
  obtain ⟨Z, μ, st, rs, r, c, h1, e, q⟩ := h
  unfold intR at e
  split at e
  · cases e
    obtain ⟨v, rfl, h2⟩ := h1.one
    exact .inl (.inl ⟨_, by rw [h2.int], q _ _ (Nx.refl _ _) c (.w (.int _))⟩)
  · cases e
    obtain ⟨v, rfl, h2⟩ := h1.one
    exact .inl (.inr ⟨_, by rw [h2.bl], q _ _ (Nx.refl _ _) c (.w (.int _))⟩)
  · obtain ⟨hf, e⟩ := ite_some' e
    obtain ⟨n, e1, rfl⟩ := Option.map_eq_some_iff.mp e
    obtain ⟨v, rfl, h2⟩ := h1.one
    exact .inr ⟨_, n, by rw [h2.str], e1, of_decide_eq_true hf, q _ _ (Nx.refl _ _) c (.w (.int _))⟩
  · cases e
theorem cq_str : CallR X (.type "str") (rdC X.K X.w strR) := by
  refine CallR.imp call_str_int fun xs H Q h => ?_
  obtain ⟨Z, μ, st, rs, r, c, h1, e, q⟩ := h
  unfold strR at e
  split at e
  · obtain ⟨hf, e⟩ := ite_some e
    cases e
    obtain ⟨v, rfl, h2⟩ := h1.one
    exact ⟨_, by rw [h2.int], of_decide_eq_true hf, q _ _ (Nx.refl _ _) c (.w (.str _))⟩
  · cases e
theorem cq_tuple : CallR X (.type "tuple") (rdC X.K X.w tupleR) := by
  refine CallR.imp call_tuple_of fun xs H Q h => ?_
  obtain ⟨Z, μ, st, rs, r, c, h1, e, q⟩ := h
  unfold tupleR at e
  split at e
  · rename_i x
    obtain ⟨ys, e1, rfl⟩ := Option.map_eq_some_iff.mp e
    obtain ⟨v, rfl, h2⟩ := h1.one
    unfold itemsOf at e1
    split at e1
    · cases e1
      obtain ⟨a, us, rfl, s, rvs⟩ := h2.tupS
      exact ⟨a, us, rfl, .inr ⟨s, q _ _ (Nx.refl _ _) c h2⟩⟩
    · obtain ⟨a, us, rfl, h3, rvs⟩ := h2.listS c e1
      exact ⟨a, us, rfl, .inl ⟨.of h3, fun p hp => q _ _ (Nx.new hp) (c.new hp) (RR.newTup c hp rvs)⟩⟩
  · cases e
theorem RKs.keys : ∀ {kvs : List (W × W)} {kus : List (Key × V)}, RKs K w F H kvs kus → RVs K w F H (kvs.map (·.1)) (kus.map fun kv => kV kv.1)
  | _, _, .nil => .nil
  | _, _, .str _ b => .cons (.str _) (RKs.keys b)
  | _, _, .int _ b => .cons (.int _) (RKs.keys b)
/-- list(d) -/
theorem call_list_dKR (hc : X.calm = true) : CallR X (.type "list") (fun xs H Q => ∃ p kvs, xs = [.ref p] ∧ H p = some (.dK kvs) ∧ ∀ q, H q = none → Q (.ref q) (upd H q (.lst (kvs.map fun kv => kV kv.1)))) := call_list_dK hc
theorem cq_list (hc : X.calm = true) : CallR X (.type "list") (rdC X.K X.w listR) := by
  refine CallR.imp call_list_of fun xs H Q h => ?_
  obtain ⟨Z, μ, st, rs, r, c, h1, e, q⟩ := h
  unfold listR at e
  split at e
  · rename_i x
    obtain ⟨ys, e1, rfl⟩ := Option.map_eq_some_iff.mp e
    obtain ⟨v, rfl, h2⟩ := h1.one
    obtain ⟨a, us, rfl, sq, rvs, _⟩ := h2.itemsS c e1
    exact ⟨a, us, rfl, sq, fun p hp => q _ _ (Nx.new hp) (c.new hp) (RR.newLst c hp rvs)⟩
  · cases e
theorem cq_min (hc : X.calm = true) : CallR X (.builtin "min") (rdC X.K X.w minR) := by
  refine CallR.imp (call_min2 hc) fun xs H Q h => ?_
  obtain ⟨Z, μ, st, rs, r, c, h1, e, q⟩ := h
  unfold minR at e
  split at e
  · cases e
    obtain ⟨v, v', rfl, h2, h3⟩ := h1.two
    exact ⟨_, _, by rw [h2.int, h3.int], q _ _ (Nx.refl _ _) c (.w (.int _))⟩
  · cases e
end

/-! ### isinstance with a built-in class -/
def tyName (st : Sto) : R → Option String
  | .w .non => some "NoneType"
  | .w (.bl _) => some "bool"
  | .w (.int _) => some "int"
  | .w (.str _) => some "str"
  | .w (.tup _) => some "tuple"
  | .w (.lst _) => some "list"
  | .w (.dic false _) => some "dict"
  | .loc n => match st[n]? with
    | some (.lst _) => some "list"
    | some (.lsr _) => some "list"
    | some (.dic false _) => some "dict"
    | some (.rcd _) => some "dict"
    | _ => none
  | _ => none
/-- the answers that are asked here -/
def isiT (a b : String) : Option Bool :=
  if a = b then some true
  else if (a ∈ ["NoneType", "bool", "int", "str", "tuple", "list", "dict"]) ∧ (b ∈ ["bool", "int", "str", "tuple", "list", "dict"]) then some (decide (a = "bool") && decide (b = "int")) else none
def isiR (st : Sto) (xs : List R) : Option R := match xs with
  | [x, .w (.ty n)] => ((tyName st x).bind fun a => isiT a n).map fun b => .w (.bl b)
  | _ => none
section
variable {X : Cx} {K : PySem.W.Frag} {w : World} {F : Addr → Prop} {Z : Addr → Prop} {μ : List Addr} {H : Hp} {st : Sto}
theorem isiT_kit {a b : String} {r : Bool} (h : isiT a b = some r) : kitB a b = some r := by
  unfold isiT at h
  by_cases e : a = b
  · rw [if_pos e] at h
    cases h
    unfold kitB
    rw [if_pos (by rw [e]; exact beq_self_eq_true _)]
  · rw [if_neg e] at h
    obtain ⟨⟨h1, h2⟩, h3⟩ := ite_some'' h
    simp only [List.mem_cons, List.not_mem_nil, or_false] at h1 h2
    rcases h1 with rfl | rfl | rfl | rfl | rfl | rfl | rfl <;> rcases h2 with rfl | rfl | rfl | rfl | rfl | rfl <;> first | (exact absurd rfl e) | (rw [← h3]; decide +kernel)
theorem RR.tyX {r : R} {a : String} {v : V} (c : Cells K w Z μ st H) (e : tyName st r = some a) (h : RR K w (Fb Z μ) μ H r v) : TyX K H v (.type a) := by
  cases h with
  | w h =>
    cases h with
    | non => cases e; exact .base .non
    | bl b => cases e; exact .base (.bl b)
    | int b => cases e; exact .base (.int b)
    | str b => cases e; exact .base (.str b)
    | fn _ => cases e
    | ty _ => cases e
    | scr _ _ => cases e
    | tupK h _ =>
      cases e
      obtain ⟨o, its, n, h1, h2, _⟩ := h
      exact .kTuple h1 h2
    | tup h _ _ =>
      cases e
      rcases h with h | ⟨o, h⟩
      · exact .base (.tup h)
      · exact .fTuple h
    | lst h _ _ => cases e; exact .base (.lst h)
    | dicK h _ _ =>
      cases e
      exact .fDict h
    | dicN _ _ _ => cases e
    | ins _ _ _ => cases e
  | @loc n p h =>
    unfold tyName at e
    simp only at e
    cases q : st[n]? with
    | none => rw [q] at e; cases e
    | some ce =>
      rw [q] at e
      cases c.ok n _ p q h with
      | lst h1 _ => cases e; exact .base (.lst h1)
      | lsr h1 _ => cases e; exact .base (.lst h1)
      | dicK h1 _ => cases e; exact .base (.dK h1)
      | dicN h1 _ => cases e
      | rcd h1 _ => cases e; exact .base (.dK h1)
      | ins h1 _ => cases e
theorem cq_isi : CallR X (.builtin "isinstance") (rdC X.K X.w isiR) := by
  refine CallR.imp call_isi fun xs H Q h => ?_
  obtain ⟨Z, μ, st, rs, r, c, h1, e, q⟩ := h
  unfold isiR at e
  split at e
  · rename_i x n
    obtain ⟨b, e1, rfl⟩ := Option.map_eq_some_iff.mp e
    obtain ⟨a, ea, eb⟩ := Option.bind_eq_some_iff.mp e1
    obtain ⟨v, v', rfl, h2, h3⟩ := h1.two
    have h4 : v' = .ty n := by
      cases h3 with
      | w h3 => cases h3; rfl
    subst h4
    exact ⟨v, .ty n, .type a, .type n, b, rfl, .ty n, h2.tyX c ea, kit_ty (isiT_kit eb), q _ _ (Nx.refl _ _) c (.w (.bl _))⟩
  · cases e
end
end Iv
end
section
set_option Elab.async false
set_option linter.all false
set_option maxRecDepth 100000
set_option maxHeartbeats 4000000
/-! Iv.R6: displays, statements, defs and their calls. -/
namespace Iv
open PySem PySem.Spec PyProof.Rows L2

/-! ### displays -/
def asW : R → Option W
  | .w x => some x
  | _ => none
def eTup (g : Env → M (List R)) : Env → M R := fun ρ => bnd (g ρ) fun rs => ofO (if fits rs.length then (mapO asW rs).map fun ws => R.w (.tup ws) else none)
def eLst (g : Env → M (List R)) : Env → M R := fun ρ => bnd (g ρ) fun rs => ofO (if fits rs.length then (mapO asW rs).map fun ws => R.w (.lst ws) else none)
/-- a new cell -/
def newC (c : Cell) : M R := fun st => .ok (.loc st.length) (st ++ [c])
def eLstC (g : Env → M (List R)) : Env → M R := fun ρ => bnd (g ρ) fun rs => bnd (ofO (if fits rs.length then mapO asW rs else none)) fun ws => newC (.lst ws)
def eDicC : Env → M R := fun _ => newC (.dic false [])
def eRcd0 : Env → M R := fun _ => newC (.rcd [])
section
variable {X : Cx} {E : WX} {K : PySem.W.Frag} {w : World} {F : Addr → Prop} {Z : Addr → Prop} {μ : List Addr} {H : Hp} {st : Sto}
theorem RRs.ws : ∀ {rs : List R} {vs : List V} {ws : List W}, RRs K w F μ H rs vs → mapO asW rs = some ws → RVs K w F H ws vs
  | _, _, _, .nil, e => by cases e; exact .nil
  | _, _, _, .cons a b, e => by
    simp only [mapO] at e
    split at e
    · rename_i y ys e1 e2
      cases e
      cases a with
      | w a => cases e1; exact .cons a (RRs.ws b e2)
      | loc a => cases e1
    · cases e
theorem RRs.length : ∀ {rs : List R} {vs : List V}, RRs K w F μ H rs vs → rs.length = vs.length
  | _, _, .nil => rfl
  | _, _, .cons _ b => by simp [RRs.length b]
theorem q_tup {es : List Expr} {g : Env → M (List R)} {k : Nat} {pos : Pos} (h : QA X E es g) : QE X E (.Tuple es k pos) (eTup g) := (pe_tup h).imp fun σ H Q h => by
  obtain ⟨Z, μ, st, ρ, c, s, q⟩ := h
  refine rdA_step (f := g) c s q fun rs st1 μ1 H1 vs n1 c1 s1 rv1 q1 => ?_
  obtain ⟨r, er, q2⟩ := q1.ofO
  obtain ⟨hf, er⟩ := ite_some' er
  obtain ⟨ws, ew, rfl⟩ := Option.map_eq_some_iff.mp er
  exact ⟨by rw [← rv1.length]; exact fits_le hf, fun p hp => q2 _ _ (Nx.new hp) (c1.new hp) _ (RR.newTup c1 hp (rv1.ws ew))⟩
theorem q_lst {es : List Expr} {g : Env → M (List R)} {pos : Pos} (h : QA X E es g) : QE X E (.List es pos) (eLst g) := (pe_lst h).imp fun σ H Q h => by
  obtain ⟨Z, μ, st, ρ, c, s, q⟩ := h
  refine rdA_step (f := g) c s q fun rs st1 μ1 H1 vs n1 c1 s1 rv1 q1 => ?_
  obtain ⟨r, er, q2⟩ := q1.ofO
  obtain ⟨hf, er⟩ := ite_some' er
  obtain ⟨ws, ew, rfl⟩ := Option.map_eq_some_iff.mp er
  exact ⟨by rw [← rv1.length]; exact fits_le hf, fun p hp => q2 _ _ (Nx.new hp) (c1.new hp) _ (RR.newLst c1 hp (rv1.ws ew))⟩
theorem RR.newLoc (c : Cells K w Z μ st H) {p : Addr} : (μ ++ [p])[st.length]? = some p := by
  rw [← c.len, List.getElem?_append_right (Nat.le_refl _)]; simp
theorem Sat.newC {σ : L2.St} {ce : Cell} {k : R → Sto → List Addr → Hp → Prop} {p : Addr} {o : HO} (c : Cells K w Z μ st H) (hp : H p = none) (hc : CellOk K w (Fb Z (μ ++ [p])) (μ ++ [p]) (upd H p o) p ce) (h : Sat K w E Z μ H σ (newC ce st) k) :
    k (.loc st.length) (st ++ [ce]) (μ ++ [p]) (upd H p o) := h _ _ (Nx.newCell c hp) (c.newCell hp hc)
theorem q_lstC {es : List Expr} {g : Env → M (List R)} {pos : Pos} (h : QA X E es g) : QE X E (.List es pos) (eLstC g) := (pe_lst h).imp fun σ H Q h => by
  obtain ⟨Z, μ, st, ρ, c, s, q⟩ := h
  refine rdA_step (f := g) c s q fun rs st1 μ1 H1 vs n1 c1 s1 rv1 q1 => ?_
  obtain ⟨ws, er, q2⟩ := q1.bnd.ofO
  obtain ⟨hf, ew⟩ := ite_some' er
  refine ⟨by rw [← rv1.length]; exact fits_le hf, fun p hp => ?_⟩
  have q3 := q2.ok c1
  exact q3.newC c1 hp (.lst upd_same ((rv1.ws ew).nx (Nx.newCell c1 hp))) _ (.loc (RR.newLoc c1))
theorem q_dicC {pos : Pos} : QE X E (.Dict [] [] pos) eDicC := pe_dnewK.imp fun σ H Q h => by
  obtain ⟨Z, μ, st, ρ, c, s, q⟩ := h
  intro p hp
  have q : Sat X.K X.w E Z μ H σ (newC (.dic false []) st) _ := q
  exact q.newC c hp (.dicK upd_same .nil) _ (.loc (RR.newLoc c))
theorem q_rcd0 {pos : Pos} : QE X E (.Dict [] [] pos) eRcd0 := pe_dnewK.imp fun σ H Q h => by
  obtain ⟨Z, μ, st, ρ, c, s, q⟩ := h
  intro p hp
  have q : Sat X.K X.w E Z μ H σ (newC (.rcd []) st) _ := q
  exact q.newC c hp (.rcd upd_same .nil) _ (.loc (RR.newLoc c))
end

/-! ### statements -/
def sExpr (f : Env → M R) : Env → SM := fun ρ => bndS ρ (f ρ) fun _ => ret (.nx, ρ)
def sSet (i : Nat) (f : Env → M R) : Env → SM := fun ρ => bndS ρ (f ρ) fun r => ret (.nx, ρ.set i (some r))
def sRet (f : Env → M R) : Env → SM := fun ρ => bndS ρ (f ρ) fun r => ret (.rt r, ρ)
def sRetN : Env → SM := fun ρ => ret (.rt (.w .non), ρ)
def sIf (t : Env → M Bool) (a b : Env → SM) : Env → SM := fun ρ => bndS ρ (t ρ) fun c => if c then a ρ else b ρ
def sNil : Env → SM := fun ρ => ret (.nx, ρ)
def sSeq (a b : Env → SM) : Env → SM := fun ρ => bnd (a ρ) fun p => match p.1 with
  | .nx => b p.2
  | _ => ret p
def sBk : Env → SM := fun ρ => ret (.bk, ρ)
def sCt : Env → SM := fun ρ => ret (.ct, ρ)
/-- code that is never come to -/
def sBad : Env → SM := fun _ => fail
section
variable {X : Cx} {E : WX}
/-- how a statement's end is wanted -/
def PostS (K : PySem.W.Frag) (w : World) (E : WX) (Z : Addr → Prop) (D : Ends) : Fl × Env → Sto → List Addr → Hp → Prop := fun p _ μ' H' => match p.1 with
    | .nx => ∀ σ', RS K w (Fb Z μ') μ' H' p.2 σ' → D.nx σ' H'
    | .bk => ∀ σ', RS K w (Fb Z μ') μ' H' p.2 σ' → D.bk σ' H'
    | .ct => ∀ σ', RS K w (Fb Z μ') μ' H' p.2 σ' → D.ct σ' H'
    | .rt r => ∀ v, RR K w (Fb Z μ') μ' H' r v → D.rt v H'
    | .ex x => ∀ σ' cls d, RS K w (Fb Z μ') μ' H' p.2 σ' → RX K w (Fb Z μ') H' x cls d → E cls d σ' H'
abbrev WX0 : WX := fun _ _ _ _ => False
theorem SatS.bndS {K : PySem.W.Frag} {w : World} {Z : Addr → Prop} {μ : List Addr} {H : Hp} {σ : L2.St} {ρ : Env} {α : Type} {m : M α} {k : α → SM} {st : Sto} {D : Ends} (s : RS K w (Fb Z μ) μ H ρ σ)
    (h : Sat K w WX0 Z μ H σ (bndS ρ m k st) (PostS K w E Z D)) : Sat K w E Z μ H σ (m st) fun a st1 μ1 H1 => Sat K w WX0 Z μ1 H1 σ (k a st1) (PostS K w E Z D) := by
  unfold Iv.bndS at h
  cases e : m st with
  | ok a st1 =>
    rw [e] at h
    exact fun μ1 H1 nx c => Sat.shift nx h
  | exc x st1 =>
    rw [e] at h
    exact fun μ1 H1 cls d nx c rx => h μ1 H1 nx c σ cls d (s.nx nx) rx
  | bad =>
    rw [e] at h
    exact h
/-- an expression within a statement -/
theorem rdS_step {K : PySem.W.Frag} {w : World} {Z : Addr → Prop} {μ : List Addr} {st : Sto} {H : Hp} {σ : L2.St} {ρ : Env} {f : Env → M R} {k : R → SM} {D : Ends} {Q : VK}
    (c : Cells K w Z μ st H) (s : RS K w (Fb Z μ) μ H ρ σ) (h : Sat K w WX0 Z μ H σ (bndS ρ (f ρ) k st) (PostS K w E Z D))
    (hk : ∀ r1 st1 μ1 H1 v1, Nx μ H μ1 H1 → Cells K w Z μ1 st1 H1 → RS K w (Fb Z μ1) μ1 H1 ρ σ → RR K w (Fb Z μ1) μ1 H1 r1 v1 → Sat K w WX0 Z μ1 H1 σ (k r1 st1) (PostS K w E Z D) → Q v1 H1) : rd K w E f σ H Q :=
  ⟨Z, μ, st, ρ, c, s, (SatS.bndS s h).mono fun r1 st1 μ1 H1 nx c1 q v1 rv => hk r1 st1 μ1 H1 v1 nx c1 (s.nx nx) rv q⟩
theorem rdST_step {K : PySem.W.Frag} {w : World} {Z : Addr → Prop} {μ : List Addr} {st : Sto} {H : Hp} {σ : L2.St} {ρ : Env} {f : Env → M Bool} {k : Bool → SM} {D : Ends} {Q : Bool → Hp → Prop}
    (c : Cells K w Z μ st H) (s : RS K w (Fb Z μ) μ H ρ σ) (h : Sat K w WX0 Z μ H σ (bndS ρ (f ρ) k st) (PostS K w E Z D))
    (hk : ∀ r1 st1 μ1 H1, Nx μ H μ1 H1 → Cells K w Z μ1 st1 H1 → RS K w (Fb Z μ1) μ1 H1 ρ σ → Sat K w WX0 Z μ1 H1 σ (k r1 st1) (PostS K w E Z D) → Q r1 H1) : rdT K w E f σ H Q :=
  ⟨Z, μ, st, ρ, c, s, (SatS.bndS s h).mono fun r1 st1 μ1 H1 nx c1 q => hk r1 st1 μ1 H1 nx c1 (s.nx nx) q⟩
theorem rdSA_step {K : PySem.W.Frag} {w : World} {Z : Addr → Prop} {μ : List Addr} {st : Sto} {H : Hp} {σ : L2.St} {ρ : Env} {f : Env → M (List R)} {k : List R → SM} {D : Ends} {Q : List V → Hp → Prop}
    (c : Cells K w Z μ st H) (s : RS K w (Fb Z μ) μ H ρ σ) (h : Sat K w WX0 Z μ H σ (bndS ρ (f ρ) k st) (PostS K w E Z D))
    (hk : ∀ r1 st1 μ1 H1 v1, Nx μ H μ1 H1 → Cells K w Z μ1 st1 H1 → RS K w (Fb Z μ1) μ1 H1 ρ σ → RRs K w (Fb Z μ1) μ1 H1 r1 v1 → Sat K w WX0 Z μ1 H1 σ (k r1 st1) (PostS K w E Z D) → Q v1 H1) : rdA K w E f σ H Q :=
  ⟨Z, μ, st, ρ, c, s, (SatS.bndS s h).mono fun r1 st1 μ1 H1 nx c1 q v1 rv => hk r1 st1 μ1 H1 v1 nx c1 (s.nx nx) rv q⟩
/-- rdS by PostS -/
theorem rdS_eq {K : PySem.W.Frag} {w : World} {f : Env → SM} {D : Ends} {σ : L2.St} {H : Hp} : rdS K w E f D σ H = ∃ Z μ st ρ, Cells K w Z μ st H ∧ RS K w (Fb Z μ) μ H ρ σ ∧ Sat K w WX0 Z μ H σ (f ρ st) (PostS K w E Z D) := rfl
theorem q_nil : QSs X E [] sNil := pss_nil.imp fun D σ H ⟨Z, μ, st, ρ, c, s, q⟩ => (q.ok c : ∀ σ', _ → _) σ s
theorem q_pass {pos : Pos} : QS X E (.Pass pos) sNil := ps_pass.imp fun D σ H ⟨Z, μ, st, ρ, c, s, q⟩ => (q.ok c : ∀ σ', _ → _) σ s
theorem q_break {pos : Pos} : QS X E (.Break pos) sBk := ps_break.imp fun D σ H ⟨Z, μ, st, ρ, c, s, q⟩ => (q.ok c : ∀ σ', _ → _) σ s
theorem q_continue {pos : Pos} : QS X E (.Continue pos) sCt := ps_continue.imp fun D σ H ⟨Z, μ, st, ρ, c, s, q⟩ => (q.ok c : ∀ σ', _ → _) σ s
theorem q_never {st : Stmt} : QS X E st sBad := ps_never.imp fun D σ H ⟨Z, μ, st, ρ, c, s, q⟩ => q
theorem q_nevers {st : List Stmt} : QSs X E st sBad := pss_never.imp fun D σ H ⟨Z, μ, st, ρ, c, s, q⟩ => q
/-- the end of a block's first part -/
theorem Ends_seq {K : PySem.W.Frag} {w : World} {Z : Addr → Prop} {μ : List Addr} {st : Sto} {H : Hp} {σ : L2.St} {ρ : Env} {a b : Env → SM} {D : Ends} (h : Sat K w WX0 Z μ H σ (sSeq a b ρ st) (PostS K w E Z D)) :
    Sat K w WX0 Z μ H σ (a ρ st) (PostS K w E Z { D with nx := rdS K w E b D }) := by
  refine h.bnd.mono fun p st1 μ1 H1 nx c1 q => ?_
  obtain ⟨fl, ρ1⟩ := p
  cases fl with
  | nx =>
    intro σ' s'
    refine ⟨Z, μ1, st1, ρ1, c1, s', ?_⟩
    have q' : Sat K w WX0 Z μ1 H1 σ (b ρ1 st1) (PostS K w E Z D) := q
    cases e : b ρ1 st1 with
    | ok a st' => rw [e] at q'; exact q'
    | exc x st' =>
      rw [e] at q'
      exact fun μ' H' cls d n c r => q' μ' H' cls d n c r
    | bad => rw [e] at q'; exact q'
  | bk => exact Sat.ok (E := WX0) (σ := σ) (k := PostS K w E Z D) c1 q
  | ct => exact Sat.ok (E := WX0) (σ := σ) (k := PostS K w E Z D) c1 q
  | rt r => exact Sat.ok (E := WX0) (σ := σ) (k := PostS K w E Z D) c1 q
  | ex x => exact Sat.ok (E := WX0) (σ := σ) (k := PostS K w E Z D) c1 q
theorem q_cons {st : Stmt} {rest : List Stmt} {a b : Env → SM} (h1 : QS X E st a) (h2 : QSs X E rest b) : QSs X E (st :: rest) (sSeq a b) :=
  (pss_cons h1 h2).imp fun D σ H ⟨Z, μ, st, ρ, c, s, q⟩ => ⟨Z, μ, st, ρ, c, s, Ends_seq q⟩
theorem q_one {st : Stmt} {a : Env → SM} (h1 : QS X E st a) : QSs X E [st] a := pss_one h1
theorem q_expr {e : Expr} {f : Env → M R} {pos : Pos} (h : QE X E e f) (hs : swapsWith e none pos.line X.env = pure false := by rfl) : QS X E (.Expr e pos) (sExpr f) := (ps_expr h hs).imp fun D σ H h => by
  obtain ⟨Z, μ, st, ρ, c, s, q⟩ := h
  exact rdS_step (f := f) (k := fun _ => ret (.nx, ρ)) c s q fun r1 st1 μ1 H1 v1 n1 c1 s1 rv1 q1 => (q1.ok c1 : ∀ σ', _ → _) σ s1
theorem q_set {i : Nat} {x : Str} {e : Expr} {f : Env → M R} {pos pos' : Pos} (hN : X.N.Nodup) (hi : X.N[i]? = some x) (hx : Loc X.env.scope x) (h : QE X E e f) (hs : swapsWith e (some (.Name x pos')) pos.line X.env = pure false := by rfl)
    (hf : X.fn x = true ∨ X.env.scope.names.lookup x = some .local := by first | exact .inl rfl | exact .inr rfl | assumption) : QS X E (.Assign [.Name x pos'] e pos) (sSet i f) := (ps_set hN hi hx h hs hf).imp fun D σ H h => by
  obtain ⟨Z, μ, st, ρ, c, s, q⟩ := h
  exact rdS_step (f := f) (k := fun r => ret (.nx, ρ.set i (some r))) c s q fun r1 st1 μ1 H1 v1 n1 c1 s1 rv1 q1 => (q1.ok c1 : ∀ σ', _ → _) _ (s1.set i rv1)
theorem q_ret {e : Expr} {f : Env → M R} {pos : Pos} (h : QE X E e f) : QS X E (.Return (some e) pos) (sRet f) := (ps_ret h).imp fun D σ H h => by
  obtain ⟨Z, μ, st, ρ, c, s, q⟩ := h
  exact rdS_step (f := f) (k := fun r => ret (.rt r, ρ)) c s q fun r1 st1 μ1 H1 v1 n1 c1 s1 rv1 q1 => (q1.ok c1 : ∀ v, _ → _) v1 rv1
theorem q_retN {pos : Pos} : QS X E (.Return none pos) sRetN := ps_retN.imp fun D σ H ⟨Z, μ, st, ρ, c, s, q⟩ => (q.ok c : ∀ v, _ → _) _ (.w .non)
theorem q_sif {t : Expr} {a b : List Stmt} {ft : Env → M Bool} {fa fb : Env → SM} {pos : Pos} (ht : QT X E t ft) (ha : QSs X E a fa) (hb : QSs X E b fb) : QS X E (.If t a b pos) (sIf ft fa fb) := (ps_if ht ha hb).imp fun D σ H h => by
  obtain ⟨Z, μ, st, ρ, c, s, q⟩ := h
  refine rdST_step (f := ft) (k := fun k => if k then fa ρ else fb ρ) c s q fun k st1 μ1 H1 n1 c1 s1 q1 => ?_
  cases k with
  | true =>
    rw [if_pos rfl]
    exact ⟨Z, μ1, st1, ρ, c1, s1, q1⟩
  | false =>
    rw [if_neg Bool.false_ne_true]
    exact ⟨Z, μ1, st1, ρ, c1, s1, q1⟩
end

/-! ### defs -/
/-- a def's body run: its names, its arguments -/
def runB (n : Nat) (g : Env → SM) (rs : List R) : M R := fun st => match g (rs.map some ++ List.replicate (n - rs.length) none) st with
  | .ok (.rt r, _) st' => .ok r st'
  | .ok (.nx, _) st' => .ok (.w .non) st'
  | .ok (.ex x, _) st' => .exc x st'
  | _ => .bad
/-- a def's promise: it does what F says -/
def spF (K : PySem.W.Frag) (w : World) (n : Nat) (F : List R → M R) : Sp := fun vs H Q E => vs.length = n ∧ ∃ Z μ st rs, Cells K w Z μ st H ∧ RRs K w (Fb Z μ) μ H rs vs ∧
  Sat K w (fun cls d _ H' => E cls d H') Z μ H [] (F rs st) fun r _ μ' H' => ∀ v, RR K w (Fb Z μ') μ' H' r v → Q v H'
theorem RRs.get {K : PySem.W.Frag} {w : World} {F : Addr → Prop} {μ : List Addr} {H : Hp} : ∀ {rs : List R} {vs : List V} {i : Nat} {r : R}, RRs K w F μ H rs vs → rs[i]? = some r → ∃ v, vs[i]? = some v ∧ RR K w F μ H r v
  | _, _, _, _, .nil, e => by simp at e
  | _, _, 0, _, .cons a _, e => by simp at e; subst e; exact ⟨_, rfl, a⟩
  | _, _, i + 1, r, .cons _ b, e => by
    obtain ⟨v, h1, h2⟩ := RRs.get (i := i) (r := r) b (by simpa using e)
    exact ⟨v, by simpa using h1, h2⟩
theorem RS.start {K : PySem.W.Frag} {w : World} {F : Addr → Prop} {μ : List Addr} {H : Hp} {rs : List R} {vs : List V} (r : RRs K w F μ H rs vs) (N : List Str) : RS K w F μ H (rs.map some ++ List.replicate (N.length - rs.length) none) (L2.start N vs) := by
  refine ⟨by unfold L2.start; simp [r.length], fun i x e => ?_⟩
  unfold L2.start
  by_cases hi : i < rs.length
  · rw [List.getElem?_append_left (by simpa using hi), List.getElem?_map] at e
    rw [List.getElem?_append_left (by simpa [← r.length] using hi), List.getElem?_map]
    obtain ⟨x', e1, e2⟩ := Option.map_eq_some_iff.mp e
    cases e2
    obtain ⟨v, h1, h2⟩ := r.get e1
    exact ⟨v, by rw [h1]; rfl, h2⟩
  · rw [List.getElem?_append_right (by simpa using hi)] at e
    rw [List.getElem?_replicate] at e
    split at e <;> cases e
section
variable {P : Program} {w : World} {K : PySem.W.Frag} {mg : Str → Option Value} {base : Heap}
theorem fn_q {x qual : Str} {params : Arguments} {body : List Stmt} {scope : Scope} {dvs : List V} {kws : List (Str × V)} {f : Addr} {fd : FuncData} {N ps : List Str} {k n : Nat} {g : Env → SM} (F : FunD K x qual params body scope dvs kws f fd) (S : FnScope N ps scope) (hn : N.length = n)
    (hbody : ∀ (cdv : Value) (A : Around) (outer : List PySem.Env) (s : Shared) (H : Hp) (E : XK), Room k (A.deeper (envOfC qual scope s.heap.objs.size f cdv)) → QSs (cxOf (L2.CX P w) P w K mg base N qual scope f cdv A outer s H E) (fun cls d _ H => E cls d H) body g) :
    FnOk P w K mg base (L2.CX P w) (k + 1) f fd ps (spF K w ps.length (runB n g)) := by
  refine F.ok S (fun vs H Q E h => h.1) fun cdv A outer s H vs Q E hr h => ?_
  obtain ⟨hl, Z, μ, st, rs, c, r, q⟩ := h
  have hb := hbody cdv A outer s H E hr
  refine ⟨_, hb, Z, μ, st, rs.map some ++ List.replicate (n - rs.length) none, c, by rw [← hn]; exact RS.start r N, ?_⟩
  unfold runB at q
  cases e : g (rs.map some ++ List.replicate (n - rs.length) none) st with
  | bad => rw [e] at q; exact q
  | exc x st' => rw [e] at q; exact False.elim q
  | ok p st' =>
    obtain ⟨fl, ρ'⟩ := p
    rw [e] at q
    cases fl with
    | rt r => exact fun μ' H' nx c' => q μ' H' nx c'
    | nx => exact fun μ' H' nx c' σ' _ => q μ' H' nx c' .non (.w .non)
    | bk => exact False.elim q
    | ct => exact False.elim q
    | ex x => exact fun μ' H' nx c' σ' cls d _ rx => q μ' H' cls d nx c' rx
end
end Iv
end
section
set_option Elab.async false
set_option linter.all false
set_option maxRecDepth 100000
set_option maxHeartbeats 4000000
/-! Iv.R7: calls. -/
namespace Iv
open PySem PySem.Spec PyProof.Rows L2

section
variable {K : PySem.W.Frag} {w : World} {Z : Addr → Prop} {F F' : Addr → Prop} {μ : List Addr} {H : Hp} {st : Sto}
theorem Kp.same (h : ∀ a, ¬ F a → ¬ F' a) : Kp F H F' H := ⟨fun _ _ r _ => r, fun _ _ _ _ e _ => e, fun _ _ e _ => e, fun _ _ _ e _ => e, fun a _ _ n => h a n⟩
theorem mapO_cons {α β : Type} {f : α → Option β} {x : α} {xs : List α} {r : List β} (h : mapO f (x :: xs) = some r) : ∃ y ys, f x = some y ∧ mapO f xs = some ys ∧ r = y :: ys := by
  simp only [mapO] at h
  split at h
  · rename_i y ys e1 e2
    cases h
    exact ⟨y, ys, e1, e2, rfl⟩
  · cases h
theorem frz_rs {st : Sto} {k : Nat} (ih : ∀ {r : R} {v : V} {x : W}, RR K w F μ H r v → frzR st k r = some x → RV K w F' H x v) : ∀ {rs : List R} {vs : List V} {xs : List W}, RRs K w F μ H rs vs → mapO (frzR st k) rs = some xs → RVs K w F' H xs vs
  | _, _, _, .nil, e => by cases e; exact .nil
  | _, _, _, .cons a b, e => by
    obtain ⟨y, ys, e1, e2, rfl⟩ := mapO_cons e
    exact .cons (ih a e1) (frz_rs ih b e2)
theorem frz_rd {st : Sto} {k : Nat} (ih : ∀ {r : R} {v : V} {x : W}, RR K w F μ H r v → frzR st k r = some x → RV K w F' H x v) : ∀ {rs : List (Str × R)} {vs : List (Key × V)} {xs : List (W × W)}, RRd K w F μ H rs vs → mapO (fun p : Str × R => (frzR st k p.2).map fun w => (W.str p.1, w)) rs = some xs → RKs K w F' H xs vs
  | _, _, _, .nil, e => by cases e; exact .nil
  | _, _, _, .cons a b, e => by
    obtain ⟨y, ys, e1, e2, rfl⟩ := mapO_cons e
    obtain ⟨x, e3, rfl⟩ := Option.map_eq_some_iff.mp e1
    exact .str (ih a e3) (frz_rd ih b e2)
theorem frz_rf {st : Sto} {k : Nat} (ih : ∀ {r : R} {v : V} {x : W}, RR K w F μ H r v → frzR st k r = some x → RV K w F' H x v) : ∀ {rs : List (Str × R)} {vs : List (Str × V)} {xs : List (Str × W)}, RRf K w F μ H rs vs → mapO (fun p : Str × R => (frzR st k p.2).map fun w => (p.1, w)) rs = some xs → RFs K w F' H xs vs
  | _, _, _, .nil, e => by cases e; exact .nil
  | _, _, _, .cons a b, e => by
    obtain ⟨y, ys, e1, e2, rfl⟩ := mapO_cons e
    obtain ⟨x, e3, rfl⟩ := Option.map_eq_some_iff.mp e1
    exact .cons (ih a e3) (frz_rf ih b e2)
/-- a cell that is let go: what could be walked is locked -/
inductive FzOk (K : PySem.W.Frag) (w : World) (F : Addr → Prop) (μ : List Addr) (H : Hp) (a : Addr) : Cell → Prop
  | lst {xs : List W} {us : List V} : H a = some (.lst us) → RVs K w F H xs us → FzOk K w F μ H a (.lst xs)
  | lsr {xs : List R} {us : List V} : H a = some (.lst us) → RRs K w F μ H xs us → FzOk K w F μ H a (.lsr xs)
  | dicK {o : Obj} {kvs : List (W × W)} {kus : List (Key × V)} : H a = some (.frz o (.dK kus)) → RKs K w F H kvs kus → FzOk K w F μ H a (.dic false kvs)
  | dicN {o : Obj} {kvs : List (W × W)} {ents : List (Int × V × V)} : H a = some (.frz o (.ext (DN a ents))) → REs K w F H kvs ents → FzOk K w F μ H a (.dic true kvs)
  | rcd {o : Obj} {fs : List (Str × R)} {kus : List (Key × V)} : H a = some (.frz o (.dK kus)) → RRd K w F μ H fs kus → FzOk K w F μ H a (.rcd fs)
  | ins {c : Str} {dx : Addr} {fs : List (Str × R)} {us : List (Str × V)} : H a = some (.ins (He.ga K c) dx us) → RRf K w F μ H fs us → FzOk K w F μ H a (.ins c fs)
theorem FzOk.mono {H' : Hp} {a : Addr} (k : Kp F H F H') (e : H' a = H a) : ∀ {c : Cell}, FzOk K w F μ H a c → FzOk K w F μ H' a c
  | _, .lst h r => .lst (e.trans h) (r.mono k)
  | _, .lsr h r => .lsr (e.trans h) (r.mono k fun _ _ z => z)
  | _, .dicK h r => .dicK (e.trans h) (r.mono k)
  | _, .dicN h r => .dicN (e.trans h) (r.mono k)
  | _, .rcd h r => .rcd (e.trans h) (r.mono k fun _ _ z => z)
  | _, .ins h r => .ins (e.trans h) (r.mono k fun _ _ z => z)
/-- what stands in the heap is locked, thing by thing; then P -/
inductive Lk (P : Hp → Prop) : Hp → Prop
  | done {H : Hp} : P H → Lk P H
  | lock {H : Hp} {d : Addr} {u : HO} : H d = some u → Mut (some u) → (∀ od, Lk P (upd H d (.frz od u))) → Lk P H
theorem _root_.L2.PE.locks {X : Cx} {e : Expr} {t : TE} (h : PE X e t) : PE X e (fun σ H Q => t σ H fun v H' => Lk (Q v) H') :=
  ⟨fun pins s σ H Q I q => thn (h.run pins s σ H _ I q) fun v s1 ⟨x, H1, I1, r1, q1⟩ => by
    clear q
    induction q1 with
    | done p => exact ⟨x, _, I1, r1, p⟩
    | lock hd mu _ ih =>
      obtain ⟨od, I2⟩ := I1.lock hd mu
      exact ih od I2⟩
theorem Kp.upd {d : Addr} {o : HO} (hd : F d) : Kp F H F (upd H d o) := by
  have ne : ∀ {a}, ¬ F a → a ≠ d := fun n e => n (e ▸ hd)
  refine ⟨fun a u r n => ?_, fun a _ _ _ e n => by rw [upd_ne (ne n)]; exact e, fun a _ e n => by rw [upd_ne (ne n)]; exact e, fun a _ _ e n => by rw [upd_ne (ne n)]; exact e, fun a _ _ n => n⟩
  rcases r with r | ⟨o', r⟩
  · exact .inl (by rw [upd_ne (ne n)]; exact r)
  · exact .inr ⟨o', by rw [upd_ne (ne n)]; exact r⟩
/-- the cells from j on are locked -/
theorem lock_go {P : Hp → Prop} {H0 : Hp} (hF : ∀ a ∈ μ, F a) (nd : μ.Nodup) (j0 : Nat) (hP : ∀ H', (∀ a, a ∉ μ → H' a = H0 a) → (∀ n a, n < j0 → μ[n]? = some a → H' a = H0 a) → Kp F H0 F H' → (∀ n ce a, j0 ≤ n → st[n]? = some ce → μ[n]? = some a → FzOk K w F μ H' a ce) → P H') :
    ∀ (k j : Nat) (H : Hp), j0 ≤ j → j + k = st.length → μ.length = st.length → (∀ a, a ∉ μ → H a = H0 a) → (∀ n a, n < j0 → μ[n]? = some a → H a = H0 a) → Kp F H0 F H → (∀ n ce a, j0 ≤ n → n < j → st[n]? = some ce → μ[n]? = some a → FzOk K w F μ H a ce) → (∀ n ce a, j ≤ n → st[n]? = some ce → μ[n]? = some a → CellOk K w F μ H a ce) → Lk P H
  | 0, j, H, hj0, hj, hl, h1, h0, kp, h2, h3 => .done (hP H h1 h0 kp fun n ce a h4 h5 h6 => h2 n ce a h4 (by have := (List.getElem?_eq_some_iff.mp h5).1; omega) h5 h6)
  | k + 1, j, H, hj0, hj, hl, h1, h0, kp, h2, h3 => by
    have hjs : j < st.length := by omega
    have hjm : j < μ.length := by omega
    have e1 : st[j]? = some st[j] := by simp [hjs]
    have e2 : μ[j]? = some μ[j] := by simp [hjm]
    generalize st[j] = ce at e1
    generalize ha : μ[j] = a at e2
    have hm : a ∈ μ := List.mem_of_getElem? e2
    have ok := h3 j ce a (Nat.le_refl _) e1 e2
    -- behind the step: H1 at a as the cell wants it, elsewhere as it was
    have step : ∀ H1, (∀ b, b ≠ a → H1 b = H b) → Kp F H F H1 → FzOk K w F μ H1 a ce → Lk P H1 := fun H1 hb k1 fz => by
      have dif : ∀ (n : Nat) (b : Addr), n ≠ j → μ[n]? = some b → b ≠ a := fun n b hn hq e => by
        rw [e] at hq
        exact hn ((List.getElem?_inj (List.getElem?_eq_some_iff.mp hq).1 nd).mp (hq.trans e2.symm))
      refine lock_go hF nd j0 hP k (j + 1) H1 (by omega) (by omega) hl (fun b hb' => ?_) (fun n b hn hb' => ?_) ⟨fun b u r n => k1.rd b u (kp.rd b u r n) n, fun b _ _ _ e n => k1.ins _ _ _ _ (kp.ins _ _ _ _ e n) n, fun b _ e n => k1.lst _ _ (kp.lst _ _ e n) n, fun b _ _ e n => k1.scr _ _ _ (kp.scr _ _ _ e n) n, fun _ _ _ n => n⟩ (fun n ce' b h4 h5 h6 h7 => ?_) fun n ce' b h4 h5 h6 => ?_
      · rw [hb b fun e => hb' (e ▸ hm)]; exact h1 b hb'
      · rw [hb b (dif n b (by omega) hb')]; exact h0 n b hn hb'
      · by_cases hn : n = j
        · subst hn
          rw [e1] at h6; rw [e2] at h7
          cases h6; cases h7
          exact fz
        · exact (h2 n ce' b h4 (by omega) h6 h7).mono k1 (hb b (dif n b hn h7))
      · exact (h3 n ce' b (by omega) h5 h6).mono k1 (fun _ _ z => z) (hb b (dif n b (by omega) h6))
    have keep : Kp F H F H := ⟨fun _ _ r _ => r, fun _ _ _ _ e _ => e, fun _ _ e _ => e, fun _ _ _ e _ => e, fun _ _ _ n => n⟩
    cases ok with
    | lst e r => exact step H (fun _ _ => rfl) keep (.lst e r)
    | lsr e r => exact step H (fun _ _ => rfl) keep (.lsr e r)
    | ins e r => exact step H (fun _ _ => rfl) keep (.ins e r)
    | dicK e r => exact .lock e trivial fun od => step _ (fun b hb => upd_ne hb) (Kp.upd (hF a hm)) (.dicK (o := od) upd_same (r.mono (Kp.upd (hF a hm))))
    | dicN e r => exact .lock e trivial fun od => step _ (fun b hb => upd_ne hb) (Kp.upd (hF a hm)) (.dicN (o := od) upd_same (r.mono (Kp.upd (hF a hm))))
    | rcd e r => exact .lock e trivial fun od => step _ (fun b hb => upd_ne hb) (Kp.upd (hF a hm)) (.rcd (o := od) upd_same (r.mono (Kp.upd (hF a hm)) fun _ _ z => z))
theorem frz_rv (c : ∀ n ce a, 1 ≤ n → st[n]? = some ce → μ[n]? = some a → FzOk K w F μ H a ce) (h1 : ∀ a, ¬ F a → ¬ F' a) (h2 : ∀ (n : Nat) (a : Addr), μ[n + 1]? = some a → ¬ F' a) : ∀ (k : Nat) {r : R} {v : V} {x : W}, RR K w F μ H r v → frzR st k r = some x → RV K w F' H x v
  | 0, _, _, _, .w a, e => by cases e; exact a.mono (Kp.same h1)
  | 0, _, _, _, .loc _, e => by cases e
  | k + 1, _, _, _, .w a, e => by cases e; exact a.mono (Kp.same h1)
  | k + 1, .loc 0, _, _, .loc _, e => by cases e
  | k + 1, .loc (n + 1), _, x, .loc (a := a) h, e => by
    have nf := h2 n a h
    have kp : Kp F H F' H := Kp.same h1
    cases q : st[n + 1]? with
    | none =>
      simp only [frzR, q] at e
      cases e
    | some ce =>
      simp only [frzR, q] at e
      have ok := c (n + 1) ce a (by omega) q h
      cases ok with
      | lst e1 r => cases e; exact .lst e1 nf (r.mono kp)
      | lsr e1 r =>
        obtain ⟨ys, e2, rfl⟩ := Option.map_eq_some_iff.mp e
        exact .lst e1 nf (frz_rs (fun a e => frz_rv c h1 h2 k a e) r e2)
      | dicK e1 r => cases e; exact .dicK e1 nf (r.mono kp)
      | dicN e1 r => cases e; exact .dicN e1 nf (r.mono kp)
      | rcd e1 r =>
        obtain ⟨ys, e2, rfl⟩ := Option.map_eq_some_iff.mp e
        exact .dicK e1 nf (frz_rd (fun a e => frz_rv c h1 h2 k a e) r e2)
      | ins e1 r =>
        obtain ⟨ys, e2, rfl⟩ := Option.map_eq_some_iff.mp e
        exact .ins e1 nf (frz_rf (fun a e => frz_rv c h1 h2 k a e) r e2)
theorem RX.mono {H' : Hp} (k : Kp F H F' H') (hx : ∀ d us, H d = some (.xd us) → ¬ F d → H' d = some (.xd us)) {x : Exc} {cls : Value} {d : Option Addr} (h : RX K w F H x cls d) : RX K w F' H' x cls d := by
  cases h with
  | mk e n f => exact .mk (hx _ _ e n) (k.nf _ _ e n) fun g y q => let ⟨v, e1, r⟩ := f g y q; ⟨v, e1, r.mono k⟩
  | no e => exact .no e
/-- a call with a store of its own -/
theorem callP_sat {E : WX} {E0 : XK} {σ : L2.St} {G : List R → M R} {rs : List R} {vs : List V} {P : R → Sto → List Addr → Hp → Prop} {Q : VK} (hE : ∀ cls d H', E cls d σ H' → E0 cls d H') (c : Cells K w Z μ st H) (r : RRs K w (Fb Z μ) μ H rs vs) (h : Sat K w E Z μ H σ (callP G rs st) P)
    (hP : ∀ r st' μ' H', P r st' μ' H' → ∀ v, RR K w (Fb Z μ') μ' H' r v → Q v H') :
    ∃ Z' μ' st', Cells K w Z' μ' st' H ∧ RRs K w (Fb Z' μ') μ' H rs vs ∧ Sat K w (fun cls d _ H' => E0 cls d H') Z' μ' H [] (G rs st') fun r _ μ'' H' => ∀ v, RR K w (Fb Z' μ'') μ'' H' r v → Lk (Q v) H' := by
  unfold callP at h
  split at h
  · rename_i xs rest
    by_cases hp : rs.all pureR = true
    · rw [if_pos hp] at h
      obtain ⟨a0, μr, rfl⟩ : ∃ a0 μr, μ = a0 :: μr := by
        cases μ with
        | nil => have := c.len; simp at this
        | cons a b => exact ⟨a, b, rfl⟩
      have nd := c.nd
      rw [List.nodup_cons] at nd
      have eqv : ∀ a, Fb (fun a => Z a ∨ a ∈ μr) [a0] a ↔ Fb Z (a0 :: μr) a := fun a => by
        unfold Fb
        simp only [List.mem_cons, List.not_mem_nil, or_false]
        constructor
        · rintro (h | h | h)
          · exact .inl (.inl h)
          · exact .inr h
          · exact .inl (.inr h)
        · rintro ((h | h) | h)
          · exact .inl h
          · exact .inr (.inr h)
          · exact .inr (.inl h)
      have kp1 : Kp (Fb Z (a0 :: μr)) H (Fb (fun a => Z a ∨ a ∈ μr) [a0]) H := Kp.same fun a n q => n ((eqv a).mp q)
      have c1 : Cells K w (fun a => Z a ∨ a ∈ μr) [a0] [.lst xs] H := by
        refine ⟨rfl, by simp, fun a ha z => ?_, fun a z => ?_, fun n ce a h1 h2 => ?_⟩
        · have e : a = a0 := by simpa using ha
          subst e
          rcases z with z | z
          · exact c.dis a List.mem_cons_self z
          · exact nd.1 z
        · rcases z with z | z
          · exact c.there a z
          · exact c.tracked (List.mem_cons_of_mem _ z)
        · cases n with
          | zero =>
            simp at h1 h2
            subst h1 h2
            cases c.ok 0 _ a0 rfl rfl with
            | lst e1 r1 => exact .lst e1 (r1.mono kp1)
          | succ n => simp at h1
      have r1 : RRs K w (Fb (fun a => Z a ∨ a ∈ μr) [a0]) [a0] H rs vs := by
        clear h c1
        induction r with
        | nil => exact .nil
        | cons a b ih =>
          rw [List.all_cons] at hp
          obtain ⟨p1, p2⟩ := Bool.and_eq_true_iff.mp hp
          refine .cons ?_ (ih p2)
          cases a with
          | w a => exact .w (a.mono kp1)
          | @loc n a h =>
            cases n with
            | zero => exact .loc (by simpa using h)
            | succ n => cases p1
      refine ⟨_, [a0], [.lst xs], c1, r1, ?_⟩
      -- behind the call
      have back : ∀ {μ'' : List Addr} {H' : Hp} {ys : List W}, Nx [a0] H μ'' H' → CellOk K w (Fb (fun a => Z a ∨ a ∈ μr) μ'') μ'' H' a0 (.lst ys) →
          Nx (a0 :: μr) H (a0 :: μr) H' ∧ Cells K w Z (a0 :: μr) (.lst ys :: rest) H' ∧ (∀ a, ¬ Fb (fun a => Z a ∨ a ∈ μr) μ'' a → ¬ Fb Z (a0 :: μr) a) ∧ (∀ (n : Nat) (a : Addr), μ''[n + 1]? = some a → ¬ Fb Z (a0 :: μr) a) ∧ μ''[0]? = some a0 := fun {μ'' H' ys} nx c0 => by
        have n0 : Nx (a0 :: μr) H (a0 :: μr) H' := ⟨⟨[], by simp⟩, fun a o e hn => nx.fr a o e fun q => hn (by simp at q; subst q; exact List.mem_cons_self)⟩
        obtain ⟨ν, rfl, hν⟩ := nx.pre
        have hF : ∀ a, ¬ Fb (fun a => Z a ∨ a ∈ μr) ([a0] ++ ν) a → ¬ Fb Z (a0 :: μr) a := fun a n q => n (by
          rcases (eqv a).mpr q with z | z
          · exact .inl (List.mem_append_left _ z)
          · exact .inr z)
        refine ⟨n0, ⟨c.len, c.nd, c.dis, fun a z => ?_, fun n ce a h1 h2 => ?_⟩, hF, fun n a hn => ?_, rfl⟩
        · obtain ⟨o, e⟩ := c.there a z
          exact ⟨o, n0.fr a o e fun q => c.dis a q z⟩
        · cases n with
          | zero =>
            simp at h1 h2
            subst h1 h2
            cases c0 with
            | lst e1 r2 => exact .lst e1 (r2.mono (Kp.same hF))
          | succ n =>
            have ok := c.ok (n + 1) ce a h1 h2
            obtain ⟨o, e⟩ := ok.at
            have hne : a ∉ [a0] := fun q => by
              have e' : a = a0 := by simpa using q
              subst e'
              have h3 : μr[n]? = some a := h2
              exact nd.1 (List.mem_of_getElem? h3)
            exact ok.mono n0.kp (fun _ _ z => z) (by rw [nx.fr a o e hne, e])
        · have hm : a ∈ ν := by
            have : ν[n]? = some a := by simpa using hn
            exact List.mem_of_getElem? this
          exact c.fresh (hν a hm).1
      cases e : G rs [.lst xs] with
      | bad => rw [e] at h; exact h
      | exc x st1 =>
        rw [e] at h
        cases st1 with
        | nil => exact False.elim h
        | cons c0 more =>
          cases c0 with
          | lst ys =>
            intro μ'' H' cls d nx c'' rx
            obtain ⟨n0, cc, hF, _, _⟩ := back nx (c''.ok 0 _ a0 rfl (nx.at rfl))
            exact hE _ _ _ (h _ H' cls d n0 cc (rx.mono (Kp.same hF) fun _ _ e _ => e))
          | lsr _ => exact False.elim h
          | dic _ _ => exact False.elim h
          | rcd _ => exact False.elim h
          | ins _ _ => exact False.elim h
      | ok r0 st1 =>
        rw [e] at h
        cases st1 with
        | nil => exact False.elim h
        | cons c0 more =>
          cases c0 with
          | lsr _ => exact False.elim h
          | dic _ _ => exact False.elim h
          | rcd _ => exact False.elim h
          | ins _ _ => exact False.elim h
          | lst ys =>
            intro μ'' H' nx c'' v rv
            obtain ⟨n0, cc, hF, hnew, h0⟩ := back nx (c''.ok 0 _ a0 rfl (nx.at rfl))
            simp only at h
            split at h
            · have hv : v = .ref a0 := by
                cases rv with
                | loc hl => rw [h0] at hl; cases hl; rfl
              subst hv
              exact .done (hP _ _ _ _ (h _ _ n0 cc) _ (.loc rfl))
            · split at h
              · rename_i y ey
                have hμ1 : ∀ a ∈ μ'', Fb (fun a => Z a ∨ a ∈ μr) μ'' a := fun a ha => .inl ha
                refine lock_go (st := .lst ys :: more) hμ1 c''.nd 1 (fun H2 g1 g0 kp2 fz => ?_) more.length 1 H' (Nat.le_refl _) (by simp; omega) c''.len (fun _ _ => rfl) (fun _ _ _ _ => rfl) (Kp.same fun _ n => n) (fun n ce a h1 h2 => by omega) fun n ce a h1 h2 h3 => c''.ok n ce a h2 h3
                have nx2 : Nx [a0] H μ'' H2 := ⟨nx.pre, fun a o e hn => by
                  rw [g1 a fun q => ?_]
                  · exact nx.fr a o e hn
                  · obtain ⟨ν, hν, hν2⟩ := nx.pre
                    rw [hν] at q
                    rcases List.mem_append.mp q with z | z
                    · exact hn z
                    · rw [(hν2 a z).1] at e; cases e⟩
                obtain ⟨n1, cc2, _, _, _⟩ := back nx2 ((c''.ok 0 _ a0 rfl h0).mono kp2 (fun _ _ z => z) (g0 0 a0 (by omega) h0))
                exact hP _ _ _ _ (h _ _ n1 cc2) v (.w (frz_rv fz hF hnew 6 (rv.mono kp2 fun _ _ z => z) ey))
              · exact False.elim h
    · rw [if_neg hp] at h
      exact False.elim h
  · exact False.elim h
end

/-! ### f(..) -/
/-- a def of the text: it does what F says -/
structure FnQ (P : Program) (w : World) (K : PySem.W.Frag) (mg : Str → Option Value) (base : Heap) (f : Addr) (k n : Nat) (F : List R → M R) : Prop where
  ex : ∃ fd ps, Binds K fd ps [] ∧ ps.length = n ∧ FnOk P w K mg base (L2.CX P w) k f fd ps (spF K w n F)
  kp : PySem.W.keepIn K (.ref f) = true
abbrev FnX (X : Cx) (f : Addr) (k n : Nat) (F : List R → M R) : Prop := FnQ X.prog X.w X.K X.mg X.base f k n F
/-- a call in the store at hand; one with a store of its own -/
def eCall (n : Nat) (F : List R → M R) (g : Env → M (List R)) : Env → M R := fun ρ => bnd (g ρ) fun rs => if rs.length = n then F rs else fail
def eCallP (n : Nat) (F : List R → M R) (g : Env → M (List R)) : Env → M R := fun ρ => bnd (g ρ) fun rs => if rs.length = n then callP F rs else fail
section
variable {X : Cx} {E : WX}
theorem Sat.ite {K : PySem.W.Frag} {w : World} {Z : Addr → Prop} {μ : List Addr} {H : Hp} {σ : L2.St} {α : Type} {p : Prop} [Decidable p] {m : M α} {st : Sto} {k : α → Sto → List Addr → Hp → Prop} (h : Sat K w E Z μ H σ ((if p then m else fail) st) k) : p ∧ Sat K w E Z μ H σ (m st) k := by
  by_cases hp : p
  · rw [if_pos hp] at h; exact ⟨hp, h⟩
  · rw [if_neg hp] at h; exact False.elim h
theorem sp_shared {K : PySem.W.Frag} {w : World} {Z : Addr → Prop} {μ : List Addr} {H : Hp} {σ : L2.St} {st : Sto} {n : Nat} {F : List R → M R} {rs : List R} {vs : List V} {Q : VK} (c : Cells K w Z μ st H) (r : RRs K w (Fb Z μ) μ H rs vs)
    (h : Sat K w E Z μ H σ ((if rs.length = n then F rs else fail) st) fun r _ μ' H' => ∀ v, RR K w (Fb Z μ') μ' H' r v → Q v H') : spF K w n F vs H Q (WE E σ) := by
  obtain ⟨hl, h⟩ := h.ite
  refine ⟨by rw [← r.length]; exact hl, Z, μ, st, rs, c, r, ?_⟩
  cases e : F rs st with
  | bad => rw [e] at h; exact h
  | ok a st' => rw [e] at h; exact h
  | exc x st' => rw [e] at h; exact h
theorem sp_pure {K : PySem.W.Frag} {w : World} {Z : Addr → Prop} {μ : List Addr} {H : Hp} {σ : L2.St} {st : Sto} {n : Nat} {F : List R → M R} {rs : List R} {vs : List V} {Q : VK} (c : Cells K w Z μ st H) (r : RRs K w (Fb Z μ) μ H rs vs)
    (h : Sat K w E Z μ H σ ((if rs.length = n then callP F rs else fail) st) fun r _ μ' H' => ∀ v, RR K w (Fb Z μ') μ' H' r v → Q v H') : spF K w n F vs H (fun v => Lk (Q v)) (WE E σ) := by
  obtain ⟨hl, h⟩ := h.ite
  obtain ⟨Z', μ', st', c', r', q⟩ := callP_sat (E0 := WE E σ) (fun _ _ _ h => h) c r h fun _ _ _ _ h => h
  exact ⟨by rw [← r.length]; exact hl, Z', μ', st', rs, c', r', q⟩
variable {x : Str} {f : Addr} {k n : Nat} {F : List R → M R} {g : Env → M (List R)} {e : Expr} {es : List Expr} {p pos : Pos}
theorem q_call (G : FnX X f k n F) (hr : Room k X.A) (hg : Gl X x) (hm : X.mg x = some (.ref f)) (tk : Takes X E) (ha : QA X E (e :: es) g)
    (hdb : (x == ("__debug__" : Str)) = false := by decide) (he : starEach (e :: es) X.env = (false, eval e X.env) :: starEach es X.env := by rfl) (hpl : (backTo pos (starEach es X.env)).any (·.1) = false := by rfl) :
    QE X E (.Call (.Name x p) (e :: es) [] pos) (eCall n F g) := by
  obtain ⟨⟨fd, ps, hb, hl, ok⟩, kp⟩ := G
  refine (pe_callSD (dvs := []) (ds := []) (E := WE E) ok hr hg hm kp hb .nil (fun σ => passAt tk σ) ha hdb he hpl).imp fun σ H Q h => ?_
  obtain ⟨Z, μ, st, ρ, c, s, q⟩ := h
  refine rdA_step (f := g) c s q fun rs st1 μ1 H1 vs n1 c1 s1 rv1 q1 => ?_
  rw [List.append_nil]
  exact sp_shared c1 rv1 q1
theorem q_callP (G : FnX X f k n F) (hr : Room k X.A) (hg : Gl X x) (hm : X.mg x = some (.ref f)) (tk : Takes X E) (ha : QA X E (e :: es) g)
    (hdb : (x == ("__debug__" : Str)) = false := by decide) (he : starEach (e :: es) X.env = (false, eval e X.env) :: starEach es X.env := by rfl) (hpl : (backTo pos (starEach es X.env)).any (·.1) = false := by rfl) :
    QE X E (.Call (.Name x p) (e :: es) [] pos) (eCallP n F g) := by
  obtain ⟨⟨fd, ps, hb, hl, ok⟩, kp⟩ := G
  refine (pe_callSD (dvs := []) (ds := []) (E := WE E) ok hr hg hm kp hb .nil (fun σ => passAt tk σ) ha hdb he hpl).locks.imp fun σ H Q h => ?_
  obtain ⟨Z, μ, st, ρ, c, s, q⟩ := h
  refine rdA_step (f := g) c s q fun rs st1 μ1 H1 vs n1 c1 s1 rv1 q1 => ?_
  rw [List.append_nil]
  exact sp_pure c1 rv1 q1
end
end Iv
end
section
set_option Elab.async false
set_option linter.all false
set_option maxRecDepth 100000
set_option maxHeartbeats 4000000
/-! Iv.R8: targets, loops, comprehensions. -/
namespace Iv
open PySem PySem.Spec PyProof.Rows L2

/-! ### targets -/
def gN (i : Nat) (r : R) (ρ : Env) : Option Env := some (ρ.set i (some r))
def gsNil (xs : List W) (ρ : Env) : Option Env := match xs with
  | [] => some ρ
  | _ => none
def gsCons (g : R → Env → Option Env) (h : List W → Env → Option Env) (xs : List W) (ρ : Env) : Option Env := match xs with
  | x :: r => (g (.w x) ρ).bind fun ρ' => h r ρ'
  | [] => none
def gTp (n : Nat) (g : List W → Env → Option Env) (r : R) (ρ : Env) : Option Env := match r with
  | .w (.tup xs) => if xs.length = n then g xs ρ else none
  | _ => none
/-- the slots besides are kept -/
def Kept (slots : List Nat) (σ σ' : L2.St) : Prop := σ'.length = σ.length ∧ ∀ j, j ∉ slots → σ'[j]? = σ[j]?
theorem Kept.refl (slots : List Nat) (σ : L2.St) : Kept slots σ σ := ⟨rfl, fun _ _ => rfl⟩
theorem Kept.trans {s1 s2 : List Nat} {a b c : L2.St} (h1 : Kept s1 a b) (h2 : Kept s2 b c) : Kept (s1 ++ s2) a c := ⟨h2.1.trans h1.1, fun j hj => (h2.2 j fun q => hj (List.mem_append_right _ q)).trans (h1.2 j fun q => hj (List.mem_append_left _ q))⟩
theorem wipe_at {σ : L2.St} {i : Nat} : ∀ {vs : List Nat}, (L2.wipe σ vs)[i]? = if i ∈ vs then (if i < σ.length then some none else none) else σ[i]?
  | [] => by simp [L2.wipe]
  | v :: vs => by
    unfold L2.wipe
    by_cases h : v = i
    · subst h
      by_cases hl : v < (L2.wipe σ vs).length
      · rw [List.getElem?_set_self hl, if_pos List.mem_cons_self, if_pos (by rw [wipe_length] at hl; exact hl)]
      · rw [List.getElem?_eq_none (by simpa using hl), if_pos List.mem_cons_self, if_neg (by rw [wipe_length] at hl; exact hl)]
    · rw [List.getElem?_set_ne h, wipe_at]
      by_cases hm : i ∈ vs
      · rw [if_pos hm, if_pos (List.mem_cons_of_mem _ hm)]
      · rw [if_neg hm, if_neg (by simp only [List.mem_cons, not_or]; exact ⟨fun e => h e.symm, hm⟩)]
theorem wipe_kept {slots vs : List Nat} {σ σ' : L2.St} (k : Kept slots (L2.wipe σ vs) σ') (hs : ∀ i ∈ slots, i ∈ vs) : L2.wipe σ' vs = L2.wipe σ vs := by
  refine List.ext_getElem? fun i => ?_
  rw [wipe_at, wipe_at]
  have hl : σ'.length = σ.length := k.1.trans (wipe_length σ vs)
  by_cases h : i ∈ vs
  · rw [if_pos h, if_pos h, hl]
  · rw [if_neg h, if_neg h, k.2 i fun q => h (hs i q), wipe_at, if_neg h]
section
variable {X : Cx} {E : WX}
def rdG (K : PySem.W.Frag) (w : World) (slots : List Nat) (g : R → Env → Option Env) : TG := fun v σ H Q => ∃ Z μ st ρ r ρ', Cells K w Z μ st H ∧ RS K w (Fb Z μ) μ H ρ σ ∧ RR K w (Fb Z μ) μ H r v ∧ g r ρ = some ρ' ∧
  ∀ σ', RS K w (Fb Z μ) μ H ρ' σ' → Kept slots σ σ' → Q σ' H
def rdGs (K : PySem.W.Frag) (w : World) (slots : List Nat) (g : List W → Env → Option Env) : TGs := fun vs σ H Q => ∃ Z μ st ρ xs ρ', Cells K w Z μ st H ∧ RS K w (Fb Z μ) μ H ρ σ ∧ RVs K w (Fb Z μ) H xs vs ∧ g xs ρ = some ρ' ∧
  ∀ σ', RS K w (Fb Z μ) μ H ρ' σ' → Kept slots σ σ' → Q σ' H
abbrev QG (X : Cx) (tg : Expr) (slots : List Nat) (g : R → Env → Option Env) : Prop := PG X tg (rdG X.K X.w slots g)
abbrev QGs (X : Cx) (tg : List Expr) (slots : List Nat) (g : List W → Env → Option Env) : Prop := PGs X tg (rdGs X.K X.w slots g)
theorem _root_.L2.PG.imp {e : Expr} {t t' : TG} (h : PG X e t) (i : ∀ v σ H Q, t' v σ H Q → t v σ H Q) : PG X e t' := ⟨fun pins s σ H v u Q I r q => h.run pins s σ H v u Q I r (i v σ H Q q)⟩
theorem _root_.L2.PGs.imp {e : List Expr} {t t' : TGs} (h : PGs X e t) (i : ∀ v σ H Q, t' v σ H Q → t v σ H Q) : PGs X e t' := ⟨fun pins s σ H v u Q I r q => h.run pins s σ H v u Q I r (i v σ H Q q)⟩
theorem q_gn {i : Nat} {x : Str} {pos : Pos} (hN : X.N.Nodup) (hi : X.N[i]? = some x) (hx : Loc X.env.scope x) (hf : X.fn x = true ∨ X.env.scope.names.lookup x = some .local := by first | exact .inl rfl | exact .inr rfl | assumption) : QG X (.Name x pos) [i] (gN i) :=
  (pg_name hN hi hx hf).imp fun v σ H Q h => by
    obtain ⟨Z, μ, st, ρ, r, ρ', c, s, rv, e, q⟩ := h
    cases e
    exact q _ (s.set i rv) ⟨by simp, fun j hj => List.getElem?_set_ne (fun e => hj (by simp [e]))⟩
theorem q_gsnil : QGs X [] [] gsNil := pgs_nil.imp fun v σ H Q h => by
  obtain ⟨Z, μ, st, ρ, xs, ρ', c, s, rv, e, q⟩ := h
  unfold gsNil at e
  split at e
  · cases e
    cases rv
    exact ⟨rfl, q _ s (Kept.refl _ _)⟩
  · cases e
theorem q_gscons {e : Expr} {es : List Expr} {s1 s2 : List Nat} {g : R → Env → Option Env} {h : List W → Env → Option Env} (h1 : QG X e s1 g) (h2 : QGs X es s2 h)
    (hs : (assignEach (e :: es) X.env).map (·.2) = assign e X.env :: (assignEach es X.env).map (·.2) := by rfl) : QGs X (e :: es) (s1 ++ s2) (gsCons g h) := (pgs_cons h1 h2 hs).imp fun v σ H Q hh => by
  obtain ⟨Z, μ, st, ρ, xs, ρ', c, s, rv, e, q⟩ := hh
  unfold gsCons at e
  split at e
  · obtain ⟨ρ1, e1, e2⟩ := Option.bind_eq_some_iff.mp e
    cases rv with
    | cons a b =>
      refine ⟨_, _, rfl, Z, μ, st, ρ, _, ρ1, c, s, .w a, e1, fun σ1 s' k1 => ?_⟩
      exact ⟨Z, μ, st, ρ1, _, ρ', c, s', b, e2, fun σ2 s'' k2 => q σ2 s'' (k1.trans k2)⟩
  · cases e
theorem q_gtp {es : List Expr} {k n : Nat} {slots : List Nat} {g : List W → Env → Option Env} {pos : Pos} (hc : X.calm = true) (h : QGs X es slots g) (hn : (assignEach es X.env).length = n := by rfl) (hst : (assignEach es X.env).findIdx? (·.1) = none := by rfl) : QG X (.Tuple es k pos) slots (gTp n g) :=
  (pg_tup hc h hn hst).imp fun v σ H Q hh => by
    obtain ⟨Z, μ, st, ρ, r, ρ', c, s, rv, e, q⟩ := hh
    unfold gTp at e
    split at e
    · rename_i xs
      obtain ⟨hl, e⟩ := ite_some'' e
      obtain ⟨a, us, rfl, sq, rvs⟩ := rv.tupS
      exact ⟨a, us, rfl, sq, by rw [← rvs.length]; exact hl, Z, μ, st, ρ, xs, ρ', c, s, rvs, e, q⟩
    · cases e
end

/-! ### what is walked -/
structure Iter where
  nxt : Nat → Sto → Option (Option W)
  len : Nat
/-- the walk J gives what it says, from (μ, H) on -/
def IterOk (K : PySem.W.Frag) (w : World) (J : It) (it : Iter) (Z : Addr → Prop) (μ0 : List Addr) (H0 : Hp) : Prop := ∀ i Z' μ H st, (∀ a, Z a → Z' a) → (∀ a o, H0 a = some o → ¬ Fb Z μ0 a → ¬ Fb Z' μ a) → (∀ (n : Nat) a, μ0[n]? = some a → μ[n]? = some a) → (∀ a o, H0 a = some o → a ∉ μ0 → ¬ Z a → H a = some o) → Cells K w Z' μ st H →
  (it.nxt i st = some none → J.stop i H) ∧ ∀ x, it.nxt i st = some (some x) → J.go i H ∧ ∀ v H', J.yld i H v H' → Nx μ H μ H' ∧ Cells K w Z' μ st H' ∧ RV K w (Fb Z' μ) H' x v
def rdI (K : PySem.W.Frag) (w : World) (E : WX) (f : Env → M Iter) : TI := fun σ H R => ∃ Z μ st ρ, Cells K w Z μ st H ∧ RS K w (Fb Z μ) μ H ρ σ ∧ Sat K w E Z μ H σ (f ρ st) fun it _ μ' H' => ∀ J, IterOk K w J it Z μ' H' → R J H'
abbrev QI (X : Cx) (E : WX) (tg iter : Expr) (f : Env → M Iter) : Prop := PI X tg iter (rdI X.K X.w E f)
theorem _root_.L2.PI.imp {X : Cx} {tg e : Expr} {t t' : TI} (h : PI X tg e t) (i : ∀ σ H R, t' σ H R → t σ H R) : PI X tg e t' := ⟨fun pins s σ H R I q => h.run pins s σ H R I (i σ H R q)⟩
/-- a list: as it stands at each turn; a tuple; a range -/
def itL (f : Env → M R) : Env → M Iter := fun ρ => bnd (f ρ) fun r st => match listOf st r with
  | some xs => .ok ⟨fun i st => (listOf st r).map fun ys => ys[i]?, xs.length⟩ st
  | none => .bad
def itT (f : Env → M R) : Env → M Iter := fun ρ => bnd (f ρ) fun r => match r with
  | .w (.tup xs) => ret ⟨fun i _ => some xs[i]?, xs.length⟩
  | _ => fail
def itR (f : Env → M R) : Env → M Iter := fun ρ => bnd (f ρ) fun r => match r with
  | .w (.int n) => if fits n.toNat && decide (-1000000 ≤ n) then ret ⟨fun i _ => some (if i < n.toNat then some (.int (i : Nat)) else none), n.toNat⟩ else fail
  | _ => fail
/-- a text, sign by sign -/
def itS (f : Env → M R) : Env → M Iter := fun ρ => bnd (f ρ) fun r => match r with
  | .w (.str z) => ret ⟨fun i _ => some (z.cps[i]?.map fun c => .str ⟨#[c]⟩), z.cps.size⟩
  | _ => fail
section
variable {X : Cx} {E : WX} {tg : Expr}
theorem kp_of {Z Z' : Addr → Prop} {μ0 μ : List Addr} {H0 H : Hp} (h1 : ∀ a o, H0 a = some o → ¬ Fb Z μ0 a → ¬ Fb Z' μ a) (h3 : ∀ a o, H0 a = some o → a ∉ μ0 → ¬ Z a → H a = some o) : Kp (Fb Z μ0) H0 (Fb Z' μ) H where
  rd := fun a u r n => by
    rcases r with r | ⟨o, r⟩
    · exact .inl (h3 a _ r (fun q => n (.inl q)) fun q => n (.inr q))
    · exact .inr ⟨o, h3 a _ r (fun q => n (.inl q)) fun q => n (.inr q)⟩
  ins := fun a C dx fs e n => h3 a _ e (fun q => n (.inl q)) fun q => n (.inr q)
  lst := fun a us e n => h3 a _ e (fun q => n (.inl q)) fun q => n (.inr q)
  scr := fun a o us e n => h3 a _ e (fun q => n (.inl q)) fun q => n (.inr q)
  nf := fun a o e n => h1 a o e n
theorem q_itl {l : Expr} {f : Env → M R} (h : QE X E l f) : QI X E tg l (itL f) := (pi_list h).imp fun σ H R hh => by
  obtain ⟨Z, μ, st, ρ, c, s, q⟩ := hh
  refine rd_step (f := f) c s q fun r1 st1 μ1 H1 v1 n1 c1 s1 rv1 q1 => ?_
  cases el : listOf st1 r1 with
  | none => simp only [el] at q1; exact False.elim q1
  | some xs =>
    simp only [el] at q1
    obtain ⟨a, us, rfl, h3, rvs⟩ := rv1.listS c1 el
    refine ⟨a, rfl, ⟨us, .of h3⟩, q1.ok c1 _ fun i Z' μ' H' st' hz h4 h5 h6 c' => ?_⟩
    have rv' : RR X.K X.w (Fb Z' μ') μ' H' r1 (.ref a) := rv1.mono (kp_of h4 h6) h5
    refine ⟨fun e => ?_, fun x e => ?_⟩
    · obtain ⟨ys, e1, e2⟩ := Option.map_eq_some_iff.mp e
      obtain ⟨b, us', eb, h7, rvs'⟩ := rv'.listS c' e1
      cases eb
      refine ⟨us', .of h7, ?_⟩
      rw [← rvs'.length]
      exact List.getElem?_eq_none_iff.mp e2
    · obtain ⟨ys, e1, e2⟩ := Option.map_eq_some_iff.mp e
      obtain ⟨b, us', eb, h7, rvs'⟩ := rv'.listS c' e1
      cases eb
      obtain ⟨v, e3, rv⟩ := rvs'.get' e2
      refine ⟨⟨us', v, .of h7, e3⟩, fun v' H'' y => ?_⟩
      obtain ⟨rfl, y2⟩ := y
      have e4 := y2 us' (.of h7)
      rw [e3] at e4
      cases e4
      exact ⟨Nx.refl _ _, c', rv⟩
theorem SqT.keep {K : PySem.W.Frag} {w : World} {Z Z' : Addr → Prop} {μ0 μ : List Addr} {H0 H : Hp} {xs : List W} {v : V} (h1 : ∀ a o, H0 a = some o → ¬ Fb Z μ0 a → ¬ Fb Z' μ a) (h3 : ∀ a o, H0 a = some o → a ∉ μ0 → ¬ Z a → H a = some o) (h : RV K w (Fb Z μ0) H0 (.tup xs) v) :
    ∃ a us, v = .ref a ∧ SqT K H0 a us ∧ SqT K H a us ∧ RVs K w (Fb Z' μ) H xs us := by
  cases h with
  | tupK e r => exact ⟨_, _, rfl, .inr e, .inr e, r.mono (kp_of h1 h3)⟩
  | tup e n r => exact ⟨_, _, rfl, .inl e, .inl ((kp_of h1 h3).rd _ _ e n), r.mono (kp_of h1 h3)⟩
theorem q_itt {l : Expr} {f : Env → M R} (h : QE X E l f) : QI X E tg l (itT f) := (pi_tup h).imp fun σ H R hh => by
  obtain ⟨Z, μ, st, ρ, c, s, q⟩ := hh
  refine rd_step (f := f) c s q fun r1 st1 μ1 H1 v1 n1 c1 s1 rv1 q1 => ?_
  split at q1
  · rename_i xs
    obtain ⟨a, us, rfl, sq, rvs⟩ := rv1.tupS
    refine ⟨a, rfl, ⟨us, sq⟩, q1.ok c1 _ fun i Z' μ' H' st' hz h4 h5 h6 c' => ?_⟩
    have rv0 : RV X.K X.w (Fb Z μ1) H1 (.tup xs) (.ref a) := by
      cases rv1 with
      | w h => exact h
    obtain ⟨b, us', eb, _, sq', rvs'⟩ := SqT.keep h4 h6 rv0
    cases eb
    refine ⟨fun e => ?_, fun x e => ?_⟩
    · refine ⟨us', sq', ?_⟩
      rw [← rvs'.length]
      exact List.getElem?_eq_none_iff.mp (Option.some.inj e)
    · obtain ⟨v, e3, rv⟩ := rvs'.get' (Option.some.inj e)
      refine ⟨⟨us', v, sq', e3⟩, fun v' H'' y => ?_⟩
      obtain ⟨rfl, y2⟩ := y
      have e4 := y2 us' sq'
      rw [e3] at e4
      cases e4
      exact ⟨Nx.refl _ _, c', rv⟩
  · exact False.elim q1
theorem q_itr {l : Expr} {f : Env → M R} {p pos : Pos} (hg : Gl X "range") (hm : X.mg "range" = none) (h : QE X E l f) (hs : starEach [l] X.env = (false, eval l X.env) :: starEach [] X.env := by rfl) : QI X E tg (.Call (.Name "range" p) [l] [] pos) (itR f) :=
  (pi_range1 hg hm (q_acons h q_anil hs) (by rw [hs]; rfl)).imp fun σ H R hh => by
    obtain ⟨Z, μ, st, ρ, c, s, q⟩ := hh
    refine ⟨Z, μ, st, ρ, c, s, ?_⟩
    have q' : Sat X.K X.w E Z μ H σ (itR f ρ st) _ := q
    unfold itR at q'
    refine (show Sat X.K X.w E Z μ H σ (bnd (f ρ) (fun x => bnd (aNil ρ) fun xs => ret (x :: xs)) st) _ from ?_)
    unfold Iv.bnd at q' ⊢
    cases e : f ρ st with
    | bad => rw [e] at q'; exact q'
    | exc x st1 => rw [e] at q'; exact q'
    | ok r st1 =>
      rw [e] at q'
      simp only at q'
      intro μ1 H1 nx c1 vs rv
      split at q'
      · rename_i n
        by_cases hf : (fits n.toNat && decide (-1000000 ≤ n)) = true
        · rw [if_pos hf] at q'
          obtain ⟨v, rfl, h2⟩ := RRs.one rv
          obtain ⟨hf1, hf2⟩ := Bool.and_eq_true_iff.mp hf
          have z1 := of_decide_eq_true hf1
          have z2 := of_decide_eq_true hf2
          refine ⟨n, by rw [h2.int], by omega, by omega, q' μ1 H1 nx c1 _ fun i Z' μ' H' st' hz h4 h5 h6 c' => ⟨fun e => ?_, fun x e => ?_⟩⟩
          · have e' := Option.some.inj e
            split at e'
            · cases e'
            · show n.toNat ≤ i
              omega
          · have e' := Option.some.inj e
            split at e'
            · cases e'
              refine ⟨by show i < n.toNat; assumption, fun v' H'' y => ?_⟩
              obtain ⟨rfl, rfl⟩ := y
              exact ⟨Nx.refl _ _, c', by rw [Int.zero_add]; exact .int _⟩
            · cases e'
        · rw [if_neg hf] at q'
          exact False.elim q'
      · exact False.elim q'
theorem q_its {l : Expr} {f : Env → M R} (h : QE X E l f) : QI X E tg l (itS f) := (pi_str h).imp fun σ H R hh => by
  obtain ⟨Z, μ, st, ρ, c, s, q⟩ := hh
  refine rd_step (f := f) c s q fun r1 st1 μ1 H1 v1 n1 c1 s1 rv1 q1 => ?_
  split at q1
  · rename_i z
    refine ⟨z, rv1.str, q1.ok c1 _ fun i Z' μ' H' st' hz h4 h5 h6 c' => ⟨fun e => ?_, fun x e => ?_⟩⟩
    · have e' := Option.map_eq_none_iff.mp (Option.some.inj e)
      show z.cps.size ≤ i
      exact Array.getElem?_eq_none_iff.mp e'
    · obtain ⟨c0, e1, rfl⟩ := Option.map_eq_some_iff.mp (Option.some.inj e)
      refine ⟨(Array.getElem?_eq_some_iff.mp e1).1, fun v' H'' y => ?_⟩
      obtain ⟨rfl, ch, e2, rfl⟩ := y
      rw [e1] at e2
      cases e2
      exact ⟨Nx.refl _ _, c', .str _⟩
  · exact False.elim q1
end

/-! ### for -/
def forN (nxt : Nat → Sto → Option (Option W)) (body : W → Env → SM) : Nat → Nat → Env → SM
  | fuel, i, ρ => fun st => match nxt i st with
    | none => .bad
    | some none => .ok (.nx, ρ) st
    | some (some x) => match fuel with
      | 0 => .bad
      | k + 1 => match body x ρ st with
        | .ok (.nx, ρ') st' => forN nxt body k (i + 1) ρ' st'
        | .ok (.ct, ρ') st' => forN nxt body k (i + 1) ρ' st'
        | .ok (.bk, ρ') st' => .ok (.nx, ρ') st'
        | .ok (.rt r, ρ') st' => .ok (.rt r, ρ') st'
        | .ok (.ex x, ρ') st' => .ok (.ex x, ρ') st'
        | .exc x st' => .exc x st'
        | .bad => .bad
def forB (g : R → Env → Option Env) (body : Env → SM) (x : W) (ρ : Env) : SM := match g (.w x) ρ with
  | some ρ' => body ρ'
  | none => fail
def sFor (fi : Env → M Iter) (g : R → Env → Option Env) (body : Env → SM) : Env → SM := fun ρ => bndS ρ (fi ρ) fun it => forN it.nxt (forB g body) it.len 0 ρ
section
variable {X : Cx} {E : WX} {tg : Expr}
theorem Nx.iter {Z : Addr → Prop} {μ0 μ : List Addr} {H0 H : Hp} (x : Nx μ0 H0 μ H) : (∀ a o, H0 a = some o → ¬ Fb Z μ0 a → ¬ Fb Z μ a) ∧ (∀ (n : Nat) a, μ0[n]? = some a → μ[n]? = some a) ∧ (∀ a o, H0 a = some o → a ∉ μ0 → ¬ Z a → H a = some o) :=
  ⟨fun a o e n => x.nf e n, fun n a h => x.at h, fun a o e n _ => x.fr a o e n⟩
theorem SatX.σ {K : PySem.W.Frag} {w : World} {Z : Addr → Prop} {μ : List Addr} {H : Hp} {σ σ' : L2.St} {α : Type} {r : Res α} {k : α → Sto → List Addr → Hp → Prop} (h : Sat K w WX0 Z μ H σ r k) : Sat K w WX0 Z μ H σ' r k := by
  cases r with
  | ok a st' => exact h
  | exc x st' => exact h
  | bad => exact h
theorem q_for {iter : Expr} {body : List Stmt} {fi : Env → M Iter} {slots : List Nat} {g : R → Env → Option Env} {fb : Env → SM} {pos : Pos} (hp : PassesOwn (model X.prog X.w) X.A X.env X.xe) (hc : X.calm = true) (hi : QI X E tg iter fi) (hg : QG X tg slots g) (hb : QSs X E body fb)
    (hs : ∀ x, foldedSetIterable iter X.env x = pure x := by intro _; rfl) : QS X E (.For tg iter body [] pos) (sFor fi g fb) := (ps_for hp hc hi hg hb hs).imp fun D σ H hh => by
  obtain ⟨Z, μ, st, ρ, c, s, q⟩ := hh
  refine ⟨Z, μ, st, ρ, c, s, (SatS.bndS s q).mono fun it st1 μ1 H1 n1 c1 q1 J ok => ?_⟩
  refine ⟨fun i m σ' H' => ∃ μ' st' ρ', Cells X.K X.w Z μ' st' H' ∧ RS X.K X.w (Fb Z μ') μ' H' ρ' σ' ∧ Nx μ1 H1 μ' H' ∧ Sat X.K X.w WX0 Z μ' H' σ' (forN it.nxt (forB g fb) m i ρ' st') (PostS X.K X.w E Z D), ⟨it.len, μ1, st1, ρ, c1, s.nx n1, Nx.refl _ _, q1⟩, ?_⟩
  rintro i m σ2 H2 ⟨μ2, st2, ρ2, c2, s2, n2, q2⟩
  obtain ⟨k1, k2, k3⟩ := n2.iter (Z := Z)
  obtain ⟨st_, go_⟩ := ok i Z μ2 H2 st2 (fun _ h => h) k1 k2 k3 c2
  unfold forN at q2
  cases e : it.nxt i st2 with
  | none => rw [e] at q2; exact False.elim q2
  | some o =>
    rw [e] at q2
    cases o with
    | none => exact .inl ⟨st_ e, (q2.ok c2 : ∀ σ', _ → _) σ2 s2⟩
    | some x =>
      obtain ⟨hgo, hy⟩ := go_ x e
      cases m with
      | zero => exact False.elim q2
      | succ m =>
        simp only at q2
        refine .inr ⟨hgo, fun σ3 H3 => ∃ μ' st' ρ', Cells X.K X.w Z μ' st' H3 ∧ RS X.K X.w (Fb Z μ') μ' H3 ρ' σ3 ∧ Nx μ1 H1 μ' H3 ∧ Sat X.K X.w WX0 Z μ' H3 σ3 (forN it.nxt (forB g fb) m (i + 1) ρ' st') (PostS X.K X.w E Z D), fun σ3 H3 h3 => ⟨m, Nat.lt_succ_self m, h3⟩, fun v H3 y => ?_⟩
        obtain ⟨n3, c3, rv⟩ := hy v H3 y
        cases eg : g (.w x) ρ2 with
        | none =>
          have : forB g fb x ρ2 st2 = .bad := by unfold forB; rw [eg]; rfl
          rw [this] at q2
          exact False.elim q2
        | some ρ3 =>
          have ef : forB g fb x ρ2 st2 = fb ρ3 st2 := by unfold forB; rw [eg]
          rw [ef] at q2
          refine ⟨Z, μ2, st2, ρ2, .w x, ρ3, c3, s2.nx n3, .w rv, eg, fun σ3 s3 _ => ⟨Z, μ2, st2, ρ3, c3, s3, ?_⟩⟩
          cases eb : fb ρ3 st2 with
          | bad => rw [eb] at q2; exact q2
          | exc z st3 =>
            rw [eb] at q2
            exact fun μ' H' cls d n' c' rx => q2 μ' H' cls d (n3.trans n') c' rx
          | ok p st3 =>
            rw [eb] at q2
            obtain ⟨fl, ρ4⟩ := p
            intro μ' H' n' c'
            have nn := n3.trans n'
            cases fl with
            | nx => exact fun σ' s' => ⟨μ', st3, ρ4, c', s', n2.trans nn, SatX.σ (Sat.shift nn q2)⟩
            | ct => exact fun σ' s' => ⟨μ', st3, ρ4, c', s', n2.trans nn, SatX.σ (Sat.shift nn q2)⟩
            | bk => exact fun σ' s' => (q2 μ' H' nn c' : ∀ σ', _ → _) σ' s'
            | rt r => exact fun v rv => (q2 μ' H' nn c' : ∀ v, _ → _) v rv
            | ex z => exact fun σ' cls d s' rx => (q2 μ' H' nn c' : ∀ σ' cls d, _ → _ → _) σ' cls d s' rx
end

/-! ### while -/
def whileN (t : Env → M Bool) (body : Env → SM) : Nat → Env → SM
  | 0, _ => fail
  | k + 1, ρ => bndS ρ (t ρ) fun c => if c then (fun st => match body ρ st with
    | .ok (.nx, ρ') st' => whileN t body k ρ' st'
    | .ok (.ct, ρ') st' => whileN t body k ρ' st'
    | .ok (.bk, ρ') st' => .ok (.nx, ρ') st'
    | .ok (.rt r, ρ') st' => .ok (.rt r, ρ') st'
    | .ok (.ex x, ρ') st' => .ok (.ex x, ρ') st'
    | .exc x st' => .exc x st'
    | .bad => .bad) else ret (.nx, ρ)
/-- a while of at most so many turns, told by the state -/
def sWhile (lim : Env → Sto → Nat) (t : Env → M Bool) (body : Env → SM) : Env → SM := fun ρ st => whileN t body (lim ρ st) ρ st
section
variable {X : Cx} {E : WX}
theorem q_while {c : Expr} {body : List Stmt} {ft : Env → M Bool} {fb : Env → SM} {pos : Pos} (lim : Env → Sto → Nat) (hp : PassesOwn (model X.prog X.w) X.A X.env X.xe) (ht : QT X E c ft) (hb : QSs X E body fb) : QS X E (.While c body [] pos) (sWhile lim ft fb) := (ps_while hp ht hb).imp fun D σ H hh => by
  obtain ⟨Z, μ, st, ρ, c0, s, q⟩ := hh
  refine ⟨fun m σ' H' => ∃ μ' st' ρ', Cells X.K X.w Z μ' st' H' ∧ RS X.K X.w (Fb Z μ') μ' H' ρ' σ' ∧ Sat X.K X.w WX0 Z μ' H' σ' (whileN ft fb m ρ' st') (PostS X.K X.w E Z D), ⟨lim ρ st, μ, st, ρ, c0, s, q⟩, ?_⟩
  rintro m σ2 H2 ⟨μ2, st2, ρ2, c2, s2, q2⟩
  cases m with
  | zero => exact False.elim q2
  | succ m =>
    refine ⟨Z, μ2, st2, ρ2, c2, s2, (SatS.bndS s2 q2).mono fun k st3 μ3 H3 n3 c3 q3 => ?_⟩
    cases k with
    | false =>
      rw [if_neg Bool.false_ne_true]
      exact (Sat.ok (E := WX0) (σ := σ2) (k := PostS X.K X.w E Z D) c3 q3 : ∀ σ', _ → _) σ2 (s2.nx n3)
    | true =>
      rw [if_pos rfl]
      refine ⟨fun σ3 H3 => ∃ μ' st' ρ', Cells X.K X.w Z μ' st' H3 ∧ RS X.K X.w (Fb Z μ') μ' H3 ρ' σ3 ∧ Sat X.K X.w WX0 Z μ' H3 σ3 (whileN ft fb m ρ' st') (PostS X.K X.w E Z D), fun σ3 H3 h3 => ⟨m, Nat.lt_succ_self m, h3⟩, ?_⟩
      refine ⟨Z, μ3, st3, ρ2, c3, s2.nx n3, ?_⟩
      have q4 : Sat X.K X.w WX0 Z μ3 H3 σ2 ((fun st => match fb ρ2 st with
    | .ok (.nx, ρ') st' => whileN ft fb m ρ' st'
    | .ok (.ct, ρ') st' => whileN ft fb m ρ' st'
    | .ok (.bk, ρ') st' => .ok (.nx, ρ') st'
    | .ok (.rt r, ρ') st' => .ok (.rt r, ρ') st'
    | .ok (.ex x, ρ') st' => .ok (.ex x, ρ') st'
    | .exc x st' => .exc x st'
    | .bad => .bad) st3) (PostS X.K X.w E Z D) := q3
      simp only at q4
      cases eb : fb ρ2 st3 with
      | bad => rw [eb] at q4; exact q4
      | exc z st4 =>
        rw [eb] at q4
        exact fun μ' H' cls d n' c' rx => q4 μ' H' cls d n' c' rx
      | ok p st4 =>
        rw [eb] at q4
        obtain ⟨fl, ρ4⟩ := p
        intro μ' H' n' c'
        cases fl with
        | nx => exact fun σ' s' => ⟨μ', st4, ρ4, c', s', SatX.σ (Sat.shift n' q4)⟩
        | ct => exact fun σ' s' => ⟨μ', st4, ρ4, c', s', SatX.σ (Sat.shift n' q4)⟩
        | bk => exact fun σ' s' => (q4 μ' H' n' c' : ∀ σ', _ → _) σ' s'
        | rt r => exact fun v rv => (q4 μ' H' n' c' : ∀ v, _ → _) v rv
        | ex z => exact fun σ' cls d s' rx => (q4 μ' H' n' c' : ∀ σ' cls d, _ → _ → _) σ' cls d s' rx
end
end Iv
end
section
set_option Elab.async false
set_option linter.all false
set_option maxRecDepth 100000
set_option maxHeartbeats 4000000
/-! Iv.R9: list comprehensions. -/
namespace Iv
open PySem PySem.Spec PyProof.Rows L2

def lcN (nxt : Nat → Sto → Option (Option W)) (step : W → M (Option W)) : Nat → Nat → List W → M (List W)
  | fuel, i, acc => fun st => match nxt i st with
    | none => .bad
    | some none => .ok acc st
    | some (some x) => match fuel with
      | 0 => .bad
      | k + 1 => match step x st with
        | .ok none st' => lcN nxt step k (i + 1) acc st'
        | .ok (some y) st' => if fits (acc.length + 1) then lcN nxt step k (i + 1) (acc ++ [y]) st' else .bad
        | _ => .bad
/-- one turn: the target, the test, the item -/
def lcStep (ρ : Env) (g : R → Env → Option Env) (t : Env → M Bool) (el : Env → M R) (x : W) : M (Option W) := match g (.w x) ρ with
  | none => fail
  | some ρ' => bnd (nox (t ρ')) fun b => if b then bnd (nox (el ρ')) fun r => ofO ((asW r).map some) else ret none
def tYes : Env → M Bool := fun _ => ret true
def lcRun (own : List Nat) (fi : Env → M Iter) (g : R → Env → Option Env) (t : Env → M Bool) (el : Env → M R) : Env → M (List W) := fun ρ => bnd (fi ρ) fun it => lcN it.nxt (lcStep (wipeR ρ own) g t el) it.len 0 []
def eLc (own : List Nat) (fi : Env → M Iter) (g : R → Env → Option Env) (t : Env → M Bool) (el : Env → M R) : Env → M R := fun ρ => bnd (lcRun own fi g t el ρ) fun ys => ret (.w (.lst ys))
/-- the new list is a cell -/
def eLcC (own : List Nat) (fi : Env → M Iter) (g : R → Env → Option Env) (t : Env → M Bool) (el : Env → M R) : Env → M R := fun ρ => bnd (lcRun own fi g t el ρ) fun ys => newC (.lst ys)
section
variable {X : Cx} {E : WX} {K : PySem.W.Frag} {w : World} {Z : Addr → Prop} {μ : List Addr} {H : Hp} {st : Sto}
/-- the list that grows, among what is changed around -/
abbrev Zp (Z : Addr → Prop) (D : Addr) : Addr → Prop := fun a => Z a ∨ a = D
theorem Sat.nox {α : Type} {σ : L2.St} {m : M α} {k : α → Sto → List Addr → Hp → Prop} (h : Sat K w E Z μ H σ (nox m st) k) : Sat K w WX0 Z μ H σ (m st) k := by
  unfold Iv.nox at h
  cases e : m st with
  | ok a st' => rw [e] at h; exact h
  | exc x st' => rw [e] at h; exact False.elim h
  | bad => rw [e] at h; exact h
theorem Cells.enter (c : Cells K w Z μ st H) {D : Addr} {o : HO} (hD : H D = none) : Cells K w (Zp Z D) μ st (upd H D o) ∧ Kp (Fb Z μ) H (Fb (Zp Z D) μ) (upd H D o) := by
  have kp : Kp (Fb Z μ) H (Fb (Zp Z D) μ) (upd H D o) := by
    refine kp_of (fun a o' e n q => ?_) fun a o' e _ _ => by rw [upd_ne (ne_of_none e hD)]; exact e
    rcases q with q | q | q
    · exact n (.inl q)
    · exact n (.inr q)
    · subst q; rw [hD] at e; cases e
  refine ⟨⟨c.len, c.nd, fun a ha z => ?_, fun a z => ?_, fun n ce a h1 h2 => ?_⟩, kp⟩
  · rcases z with z | z
    · exact c.dis a ha z
    · subst z; exact c.fresh hD (.inl ha)
  · rcases z with z | z
    · obtain ⟨u, e⟩ := c.there a z
      exact ⟨u, by rw [upd_ne (ne_of_none e hD)]; exact e⟩
    · subst z; exact ⟨o, upd_same⟩
  · obtain ⟨u, e⟩ := (c.ok n ce a h1 h2).at
    exact (c.ok n ce a h1 h2).mono kp (fun _ _ z => z) (upd_ne (ne_of_none e hD))
theorem Cells.zwrite {D : Addr} {o : HO} (c : Cells K w (Zp Z D) μ st H) : Cells K w (Zp Z D) μ st (upd H D o) ∧ Kp (Fb (Zp Z D) μ) H (Fb (Zp Z D) μ) (upd H D o) := by
  have kp : Kp (Fb (Zp Z D) μ) H (Fb (Zp Z D) μ) (upd H D o) := by
    refine kp_of (fun a o' e n => n) fun a o' e _ n => ?_
    rw [upd_ne (fun q => n (.inr q))]; exact e
  refine ⟨⟨c.len, c.nd, c.dis, fun a z => ?_, fun n ce a h1 h2 => ?_⟩, kp⟩
  · by_cases h : a = D
    · subst h; exact ⟨o, upd_same⟩
    · rw [upd_ne h]; exact c.there a z
  · have ne : a ≠ D := fun q => c.dis a (List.mem_of_getElem? h2) (.inr q)
    exact (c.ok n ce a h1 h2).mono kp (fun _ _ z => z) (upd_ne ne)
theorem Cells.leave {D : Addr} (c : Cells K w (Zp Z D) μ st H) : Cells K w Z μ st H ∧ Kp (Fb (Zp Z D) μ) H (Fb Z μ) H := by
  have kp : Kp (Fb (Zp Z D) μ) H (Fb Z μ) H := Kp.same fun a n q => n (by
    rcases q with q | q
    · exact .inl q
    · exact .inr (.inl q))
  exact ⟨⟨c.len, c.nd, fun a ha z => c.dis a ha (.inl z), fun a z => c.there a (.inl z), fun n ce a h1 h2 => (c.ok n ce a h1 h2).mono kp (fun _ _ z => z) rfl⟩, kp⟩
theorem pts_yes : PTs X [] (rdT X.K X.w E tYes) := ⟨fun pins s σ H Q I h => pts_nil.run pins s σ H Q I (by
  obtain ⟨Z, μ, st, ρ, c, s, q⟩ := h
  exact q.ok c)⟩
theorem Nx.under {μ' : List Addr} {H' : Hp} {D : Addr} {us : List V} {o : HO} (x : Nx μ H μ' H') (hD : H D = some (.lst us)) : Nx μ (upd H D o) μ' (upd H' D o) := by
  obtain ⟨ν, e, hν⟩ := x.pre
  refine ⟨⟨ν, e, fun a ha => ?_⟩, fun a u e' hm => ?_⟩
  · obtain ⟨h1, h2⟩ := hν a ha
    have ne : a ≠ D := fun z => by subst z; rw [hD] at h1; cases h1
    exact ⟨by rw [upd_ne ne]; exact h1, h2⟩
  · by_cases h : a = D
    · subst h; rw [upd_same] at e' ⊢; exact e'
    · rw [upd_ne h] at e' ⊢; exact x.fr a u e' hm
theorem lc_read {own slots : List Nat} {fi : Env → M Iter} {g : R → Env → Option Env} {t : Env → M Bool} {el : Env → M R} {σ : L2.St} {k : List W → M R} {P : R → Sto → List Addr → Hp → Prop} {ρ : Env} {Q : VK} (hsl : ∀ i ∈ slots, i ∈ own) (c : Cells K w Z μ st H) (s : RS K w (Fb Z μ) μ H ρ σ)
    (q : Sat K w E Z μ H σ (bnd (lcRun own fi g t el ρ) k st) P)
    (fin : ∀ {D : Addr} {H1 H2 : Hp} {μ1 μ2 : List Addr} {st2 : Sto} {ys : List W} {us : List V} {st1 : Sto}, Cells K w Z μ1 st1 H1 → H1 D = none → Cells K w (Zp Z D) μ2 st2 H2 → H2 D = some (.lst us) → RVs K w (Fb (Zp Z D) μ2) H2 ys us → Nx μ1 H1 μ2 H2 → Sat K w E Z μ1 H1 σ (k ys st2) P → Q (.ref D) H2) :
    tLc (rdI K w E fi) (rdG K w slots g) (rdT K w WX0 t) (rd K w WX0 el) own σ H Q := by
  have q0 : Sat K w E Z μ H σ (bnd (fi ρ) (fun it => bnd (lcN it.nxt (lcStep (wipeR ρ own) g t el) it.len 0 []) k) st) P := by
    unfold lcRun at q
    rw [bnd_bnd] at q
    exact q
  refine ⟨Z, μ, st, ρ, c, s, q0.bnd.mono fun it st1 μ1 H1 n1 c1 q1 J ok => ?_⟩
  intro D hD
  have s1 := s.nx n1
  obtain ⟨cE, kE⟩ := c1.enter (o := .lst []) hD
  have sW : RS K w (Fb (Zp Z D) μ1) μ1 (upd H1 D (.lst [])) (wipeR ρ own) (L2.wipe σ own) := by
    have h0 : RS K w (Fb (Zp Z D) μ1) μ1 (upd H1 D (.lst [])) ρ σ := ⟨s1.len, fun i r e => let ⟨v, e', rr⟩ := s1.at_ i r e; ⟨v, e', rr.mono kE fun _ _ z => z⟩⟩
    exact h0.wipe own
  refine ⟨fun i m H' => ∃ μ' st' acc us, Cells K w (Zp Z D) μ' st' H' ∧ RS K w (Fb (Zp Z D) μ') μ' H' (wipeR ρ own) (L2.wipe σ own) ∧ Nx μ1 (upd H1 D (.lst [])) μ' (upd H' D (.lst [])) ∧ H' D = some (.lst us) ∧ RVs K w (Fb (Zp Z D) μ') H' acc us ∧
      Sat K w E Z μ1 H1 σ (bnd (lcN it.nxt (lcStep (wipeR ρ own) g t el) m i acc) k st') P, ⟨it.len, μ1, st1, [], [], cE, sW, by rw [upd_upd]; exact Nx.refl _ _, upd_same, .nil, q1⟩, ?_⟩
  rintro i m H2 ⟨μ2, st2, acc, us, c2, s2, n2, hD2, ra, q2⟩
  -- what holds of (μ2, H2) as a state behind (μ1, H1)
  have fr : ∀ a o, H1 a = some o → a ∉ μ1 → H2 a = some o := fun a o e hm => by
    have ne : a ≠ D := ne_of_none e hD
    have := n2.fr a o (by rw [upd_ne ne]; exact e) hm
    rw [upd_ne ne] at this; exact this
  have n12 : Nx μ1 H1 μ2 H2 := by
    obtain ⟨ν, e, hν⟩ := n2.pre
    refine ⟨⟨ν, e, fun a ha => ?_⟩, fr⟩
    obtain ⟨h1, h2⟩ := hν a ha
    have ne : a ≠ D := fun z => by subst z; rw [upd_same] at h1; cases h1
    rw [upd_ne ne] at h1
    exact ⟨h1, h2⟩
  obtain ⟨st_, go_⟩ := ok i (Zp Z D) μ2 H2 st2 (fun _ h => .inl h) (fun a o e n q => by
    rcases q with q | q | q
    · obtain ⟨ν, e', hν⟩ := n12.pre
      rw [e'] at q
      rcases List.mem_append.mp q with q | q
      · exact n (.inl q)
      · rw [(hν a q).1] at e; cases e
    · exact n (.inr q)
    · subst q; rw [hD] at e; cases e) (fun n a h => n12.at h) (fun a o e hm _ => fr a o e hm) c2
  have Dn : ∀ {μ' : List Addr} {st' : Sto} {H' : Hp}, Cells K w (Zp Z D) μ' st' H' → D ∉ μ' := fun c' q => c'.dis D q (.inr rfl)
  unfold Iv.bnd lcN at q2
  cases e : it.nxt i st2 with
  | none => rw [e] at q2; exact False.elim q2
  | some o =>
    rw [e] at q2
    cases o with
    | none => exact .inl ⟨st_ e, fin c1 hD c2 hD2 ra n12 q2⟩
    | some x =>
      obtain ⟨hgo, hy⟩ := go_ x e
      cases m with
      | zero => exact False.elim q2
      | succ m =>
        simp only at q2
        refine .inr ⟨hgo, fun H' => ∃ μ' st' acc us, Cells K w (Zp Z D) μ' st' H' ∧ RS K w (Fb (Zp Z D) μ') μ' H' (wipeR ρ own) (L2.wipe σ own) ∧ Nx μ1 (upd H1 D (.lst [])) μ' (upd H' D (.lst [])) ∧ H' D = some (.lst us) ∧ RVs K w (Fb (Zp Z D) μ') H' acc us ∧
          Sat K w E Z μ1 H1 σ (bnd (lcN it.nxt (lcStep (wipeR ρ own) g t el) m (i + 1) acc) k st') P, fun H' h' => ⟨m, Nat.lt_succ_self m, h'⟩, fun v H3 y => ?_⟩
        obtain ⟨n3, c3, rv⟩ := hy v H3 y
        cases eg : g (.w x) (wipeR ρ own) with
        | none =>
          have z : lcStep (wipeR ρ own) g t el x st2 = .bad := by unfold lcStep; rw [eg]; rfl
          rw [z] at q2
          exact False.elim q2
        | some ρ' =>
          have z : lcStep (wipeR ρ own) g t el x = bnd (nox (t ρ')) fun b => if b then bnd (nox (el ρ')) fun r => ofO ((asW r).map some) else ret none := by unfold lcStep; rw [eg]
          rw [z] at q2
          refine ⟨Zp Z D, μ2, st2, wipeR ρ own, .w x, ρ', c3, s2.nx n3, .w rv, eg, fun σ3 s3 k3 => ⟨wipe_kept k3 hsl, Zp Z D, μ2, st2, ρ', c3, s3, ?_⟩⟩
          unfold Iv.bnd nox at q2
          cases et : t ρ' st2 with
          | bad => rw [et] at q2; exact False.elim q2
          | exc a b => rw [et] at q2; exact False.elim q2
          | ok b st3 =>
            rw [et] at q2
            simp only at q2
            intro μ4 H4 n4 c4
            have n34 := n3.trans n4
            have hD4 : H4 D = some (.lst us) := n34.fr D _ hD2 (Dn c2)
            cases b with
            | false =>
              refine iteF ?_
              exact ⟨μ4, st3, acc, us, c4, s2.nx n34, n2.trans (n34.under hD2), hD4, ra.nx n34, q2⟩
            | true =>
              refine iteT ?_
              refine ⟨Zp Z D, μ4, st3, ρ', c4, s3.nx n4, ?_⟩
              simp only [if_true] at q2
              cases ee : el ρ' st3 with
              | bad => rw [ee] at q2; exact False.elim q2
              | exc a b => rw [ee] at q2; exact False.elim q2
              | ok r5 st5 =>
                rw [ee] at q2
                simp only at q2
                intro μ5 H5 n5 c5 v5 rv5
                have n35 := n34.trans n5
                have hD5 : H5 D = some (.lst us) := n35.fr D _ hD2 (Dn c2)
                cases r5 with
                | loc n => exact False.elim q2
                | w y5 =>
                  have eo : ofO (Option.map some (asW (R.w y5))) st5 = .ok (some y5) st5 := rfl
                  rw [eo] at q2
                  simp only at q2
                  by_cases hf : fits (acc.length + 1) = true
                  · rw [if_pos hf] at q2
                    obtain ⟨c6, k6⟩ := c5.zwrite (o := .lst (us ++ [v5]))
                    have sl := of_decide_eq_true hf
                    refine ⟨us, hD5, ?_, μ5, st5, acc ++ [y5], us ++ [v5], c6, ?_, ?_, upd_same, ?_, by unfold Iv.bnd; exact q2⟩
                    · rw [← ra.length, sizeLine_eq]; omega
                    · have s5 := s2.nx n35
                      exact ⟨s5.len, fun j r e => let ⟨v, e', rr⟩ := s5.at_ j r e; ⟨v, e', rr.mono k6 fun _ _ z => z⟩⟩
                    · rw [upd_upd]; exact n2.trans (n35.under hD2)
                    · refine ((ra.nx n35).append (.cons ?_ .nil)).mono k6
                      cases rv5 with
                      | w h => exact h
                  · rw [if_neg hf] at q2
                    exact False.elim q2
variable {tg iter elt : Expr} {ifs : List Expr} {scope : Scope} {own : List (Str × Nat)} {slots : List Nat} {fi : Env → M Iter} {g : R → Env → Option Env} {t : Env → M Bool} {el : Env → M R} {pos : Pos}
theorem lc_fin {σ : L2.St} {Q : VK} {D : Addr} {H1 H2 : Hp} {μ1 μ2 : List Addr} {st2 : Sto} {ys : List W} {us : List V} {st1 : Sto} (c1 : Cells K w Z μ1 st1 H1) (hD : H1 D = none) (c2 : Cells K w (Zp Z D) μ2 st2 H2) (hD2 : H2 D = some (.lst us)) (ra : RVs K w (Fb (Zp Z D) μ2) H2 ys us) (n12 : Nx μ1 H1 μ2 H2)
    (q : Sat K w E Z μ1 H1 σ (ret (R.w (.lst ys)) st2) fun r _ μ' H' => ∀ v, RR K w (Fb Z μ') μ' H' r v → Q v H') : Q (.ref D) H2 := by
  obtain ⟨c3, k3⟩ := c2.leave
  refine q μ2 H2 n12 c3 _ (.w (.lst hD2 ?_ (ra.mono k3)))
  rintro (z | z)
  · exact c2.dis D z (.inr rfl)
  · exact c1.fresh hD (.inr z)
theorem lc_finC {σ : L2.St} {Q : VK} {D : Addr} {H1 H2 : Hp} {μ1 μ2 : List Addr} {st2 : Sto} {ys : List W} {us : List V} {st1 : Sto} (c1 : Cells K w Z μ1 st1 H1) (hD : H1 D = none) (c2 : Cells K w (Zp Z D) μ2 st2 H2) (hD2 : H2 D = some (.lst us)) (ra : RVs K w (Fb (Zp Z D) μ2) H2 ys us) (n12 : Nx μ1 H1 μ2 H2)
    (q : Sat K w E Z μ1 H1 σ (newC (.lst ys) st2) fun r _ μ' H' => ∀ v, RR K w (Fb Z μ') μ' H' r v → Q v H') : Q (.ref D) H2 := by
  have nD : D ∉ μ2 := fun z => c2.dis D z (.inr rfl)
  have kp : Kp (Fb (Zp Z D) μ2) H2 (Fb Z (μ2 ++ [D])) H2 := Kp.same fun a n z => n (by
    rcases z with z | z
    · rcases List.mem_append.mp z with z | z
      · exact .inl z
      · exact .inr (.inr (by simpa using z))
    · exact .inr (.inl z))
  have hμ : ∀ (n : Nat) (a : Addr), μ2[n]? = some a → (μ2 ++ [D])[n]? = some a := fun n a h => by
    rw [List.getElem?_append_left (List.getElem?_eq_some_iff.mp h).1]; exact h
  have c3 : Cells K w Z (μ2 ++ [D]) (st2 ++ [.lst ys]) H2 := by
    refine ⟨by simp [c2.len], ?_, fun a ha z => ?_, fun a z => c2.there a (.inl z), fun n ce a h1 h2 => ?_⟩
    · rw [List.nodup_append]
      refine ⟨c2.nd, by simp, fun a ha b hb e => ?_⟩
      have e' : b = D := by simpa using hb
      subst e' e
      exact nD ha
    · rcases List.mem_append.mp ha with q | q
      · exact c2.dis a q (.inl z)
      · have e' : a = D := by simpa using q
        subst e'
        exact c1.fresh hD (.inr z)
    · by_cases hn : n < st2.length
      · rw [List.getElem?_append_left hn] at h1
        rw [List.getElem?_append_left (by rw [c2.len]; exact hn)] at h2
        exact (c2.ok n ce a h1 h2).mono kp hμ rfl
      · have hlt := (List.getElem?_eq_some_iff.mp h1).1
        simp only [List.length_append, List.length_cons, List.length_nil] at hlt
        have en : n = st2.length := by omega
        subst en
        rw [List.getElem?_append_right (by simp)] at h1
        rw [List.getElem?_append_right (by rw [c2.len]; exact Nat.le_refl _), c2.len] at h2
        simp at h1 h2
        subst h1 h2
        exact .lst hD2 (ra.mono kp)
  have n13 : Nx μ1 H1 (μ2 ++ [D]) H2 := by
    obtain ⟨ν, e, hν⟩ := n12.pre
    refine ⟨⟨ν ++ [D], by rw [e, List.append_assoc], fun a ha => ?_⟩, n12.fr⟩
    rcases List.mem_append.mp ha with z | z
    · exact hν a z
    · have e' : a = D := by simpa using z
      subst e'
      exact ⟨hD, fun z => c1.fresh hD (.inl z)⟩
  exact q _ H2 n13 c3 _ (.loc (by rw [← c2.len, List.getElem?_append_right (Nat.le_refl _)]; simp))
theorem q_lc (hc : X.calm = true) (hN : X.N.Nodup) (hi : QI X E tg iter fi) (ok : BlkOk X.N X.env.scope scope own) (hsl : ∀ i ∈ slots, i ∈ own.map (·.2))
    (hg : ∀ (s : Shared) (H : Hp) (C : Addr) (cl : List (Str × Addr)) (fp : List Addr), QG (X.blk s H scope (compEnvC scope cl C X.env) fp) tg slots g)
    (ht : ∀ (s : Shared) (H : Hp) (C : Addr) (cl : List (Str × Addr)) (fp : List Addr), PTs (X.blk s H scope (compEnvC scope cl C X.env) fp) ifs (rdT X.K X.w WX0 t))
    (he : ∀ (s : Shared) (H : Hp) (C : Addr) (cl : List (Str × Addr)) (fp : List Addr), QE (X.blk s H scope (compEnvC scope cl C X.env) fp) WX0 elt el) (hs : ∀ x, foldedSetIterable iter X.env x = pure x := by intro _; rfl) :
    QE X E (.ListComp elt [⟨tg, iter, ifs, 0⟩] scope pos) (eLc (own.map (·.2)) fi g t el) := (pe_lc hc hN hi ok hg ht he hs).imp fun σ H Q hh => by
  obtain ⟨Z, μ, st, ρ, c, s, q⟩ := hh
  exact lc_read hsl c s q fun c1 hD c2 hD2 ra n12 q => lc_fin c1 hD c2 hD2 ra n12 q
theorem q_lcC (hc : X.calm = true) (hN : X.N.Nodup) (hi : QI X E tg iter fi) (ok : BlkOk X.N X.env.scope scope own) (hsl : ∀ i ∈ slots, i ∈ own.map (·.2))
    (hg : ∀ (s : Shared) (H : Hp) (C : Addr) (cl : List (Str × Addr)) (fp : List Addr), QG (X.blk s H scope (compEnvC scope cl C X.env) fp) tg slots g)
    (ht : ∀ (s : Shared) (H : Hp) (C : Addr) (cl : List (Str × Addr)) (fp : List Addr), PTs (X.blk s H scope (compEnvC scope cl C X.env) fp) ifs (rdT X.K X.w WX0 t))
    (he : ∀ (s : Shared) (H : Hp) (C : Addr) (cl : List (Str × Addr)) (fp : List Addr), QE (X.blk s H scope (compEnvC scope cl C X.env) fp) WX0 elt el) (hs : ∀ x, foldedSetIterable iter X.env x = pure x := by intro _; rfl) :
    QE X E (.ListComp elt [⟨tg, iter, ifs, 0⟩] scope pos) (eLcC (own.map (·.2)) fi g t el) := (pe_lc hc hN hi ok hg ht he hs).imp fun σ H Q hh => by
  obtain ⟨Z, μ, st, ρ, c, s, q⟩ := hh
  exact lc_read hsl c s q fun c1 hD c2 hD2 ra n12 q => lc_finC c1 hD c2 hD2 ra n12 q
/-- y = [..] -/
theorem q_setLc {i : Nat} {y : Str} {py spos : Pos} (hc : X.calm = true) (hN : X.N.Nodup) (hy : X.N[i]? = some y) (hyl : X.env.scope.names.lookup y = some .local) (hsw : swapsWith (.ListComp elt [⟨tg, iter, ifs, 0⟩] scope pos) (some (.Name y py)) spos.line X.env = pure true)
    (hi : QI X E tg iter fi) (ok : BlkOk X.N X.env.scope scope own) (hsl : ∀ i ∈ slots, i ∈ own.map (·.2))
    (hg : ∀ (s : Shared) (H : Hp) (C : Addr) (cl : List (Str × Addr)) (fp : List Addr), QG (X.blk s H scope (compEnvC scope cl C X.env) fp) tg slots g)
    (ht : ∀ (s : Shared) (H : Hp) (C : Addr) (cl : List (Str × Addr)) (fp : List Addr), PTs (X.blk s H scope (compEnvC scope cl C X.env) fp) ifs (rdT X.K X.w WX0 t))
    (he : ∀ (s : Shared) (H : Hp) (C : Addr) (cl : List (Str × Addr)) (fp : List Addr), QE (X.blk s H scope (compEnvC scope cl C X.env) fp) WX0 elt el) (hs : ∀ x, foldedSetIterable iter X.env x = pure x := by intro _; rfl) :
    QS X E (.Assign [.Name y py] (.ListComp elt [⟨tg, iter, ifs, 0⟩] scope pos) spos) (sSet i (eLc (own.map (·.2)) fi g t el)) := (ps_setLc hc hN hy hyl hsw hi ok hg ht he hs).imp fun D σ H hh => by
  obtain ⟨Z, μ, st, ρ, c, s, q⟩ := hh
  have q1 : Sat X.K X.w E Z μ H σ (eLc (own.map (·.2)) fi g t el ρ st) fun r _ μ' H' => ∀ v, RR X.K X.w (Fb Z μ') μ' H' r v → gName i v σ H' D.nx :=
    (SatS.bndS s q).mono fun r1 st1 μ1 H1 n1 c1 q1 v rv => (q1.ok c1 : ∀ σ', _ → _) _ ((s.nx n1).set i rv)
  exact lc_read (Q := fun x H1 => gName i x σ H1 D.nx) hsl c s q1 fun c1 hD c2 hD2 ra n12 q => lc_fin c1 hD c2 hD2 ra n12 q
theorem q_setLcC {i : Nat} {y : Str} {py spos : Pos} (hc : X.calm = true) (hN : X.N.Nodup) (hy : X.N[i]? = some y) (hyl : X.env.scope.names.lookup y = some .local) (hsw : swapsWith (.ListComp elt [⟨tg, iter, ifs, 0⟩] scope pos) (some (.Name y py)) spos.line X.env = pure true)
    (hi : QI X E tg iter fi) (ok : BlkOk X.N X.env.scope scope own) (hsl : ∀ i ∈ slots, i ∈ own.map (·.2))
    (hg : ∀ (s : Shared) (H : Hp) (C : Addr) (cl : List (Str × Addr)) (fp : List Addr), QG (X.blk s H scope (compEnvC scope cl C X.env) fp) tg slots g)
    (ht : ∀ (s : Shared) (H : Hp) (C : Addr) (cl : List (Str × Addr)) (fp : List Addr), PTs (X.blk s H scope (compEnvC scope cl C X.env) fp) ifs (rdT X.K X.w WX0 t))
    (he : ∀ (s : Shared) (H : Hp) (C : Addr) (cl : List (Str × Addr)) (fp : List Addr), QE (X.blk s H scope (compEnvC scope cl C X.env) fp) WX0 elt el) (hs : ∀ x, foldedSetIterable iter X.env x = pure x := by intro _; rfl) :
    QS X E (.Assign [.Name y py] (.ListComp elt [⟨tg, iter, ifs, 0⟩] scope pos) spos) (sSet i (eLcC (own.map (·.2)) fi g t el)) := (ps_setLc hc hN hy hyl hsw hi ok hg ht he hs).imp fun D σ H hh => by
  obtain ⟨Z, μ, st, ρ, c, s, q⟩ := hh
  have q1 : Sat X.K X.w E Z μ H σ (eLcC (own.map (·.2)) fi g t el ρ st) fun r _ μ' H' => ∀ v, RR X.K X.w (Fb Z μ') μ' H' r v → gName i v σ H' D.nx :=
    (SatS.bndS s q).mono fun r1 st1 μ1 H1 n1 c1 q1 v rv => (q1.ok c1 : ∀ σ', _ → _) _ ((s.nx n1).set i rv)
  exact lc_read (Q := fun x H1 => gName i x σ H1 D.nx) hsl c s q1 fun c1 hD c2 hD2 ra n12 q => lc_finC c1 hD c2 hD2 ra n12 q
end
end Iv
end
section
set_option Elab.async false
set_option linter.all false
set_option maxRecDepth 100000
set_option maxHeartbeats 4000000
/-! Iv.R10: methods of built-in types; stores. -/
namespace Iv
open PySem PySem.Spec PyProof.Rows L2

/-! ### o.m(..) -/
/-- a dict with tuple keys -/
def ndictOf (st : Sto) : R → Option (List (W × W))
  | .w (.dic true kvs) => some kvs
  | .loc n => match st[n]? with
    | some (.dic true kvs) => some kvs
    | _ => none
  | _ => none
def lsrOf (st : Sto) : R → Option (List R)
  | .loc n => match st[n]? with
    | some (.lsr xs) => some xs
    | _ => none
  | _ => none
def tyC (T : String) (st : Sto) (r : R) : Bool :=
  if T = "str" then (match r with | .w (.str _) => true | _ => false)
  else if T = "list" then (listOf st r).isSome || (lsrOf st r).isSome
  else if T = "dict" then (dictOf st r).isSome || ((rcdOf st r).isSome || (ndictOf st r).isSome)
  else false
/-- what it does to the store, too -/
abbrev Mt := Sto → R → List R → Option (R × Sto)
def app (f : Mt) (x : R) (xs : List R) : M R := fun st => match f st x xs with
  | some (r, st') => .ok r st'
  | none => .bad
def eM (T : String) (f : Mt) (o : Env → M R) (g : Env → M (List R)) : Env → M R := fun ρ => bnd (o ρ) fun x st => if tyC T st x then bnd (g ρ) (fun xs => app f x xs) st else .bad
section
variable {X : Cx} {E : WX} {K : PySem.W.Frag} {w : World} {F : Addr → Prop} {Z : Addr → Prop} {μ : List Addr} {H : Hp} {st : Sto}
def Bty (K : PySem.W.Frag) (H : Hp) (T : String) (x : V) : Prop := (T = "str" ∧ ∃ z, x = .str z) ∨ (T = "list" ∧ ∃ p xs, x = .ref p ∧ SqL K H p xs) ∨ (T = "dict" ∧ ∃ p, x = .ref p ∧ ((∃ kvs, Rd H p (.dK kvs)) ∨ ∃ ents, Rd H p (.ext (DN p ents))))
theorem RR.lsrS {r : R} {xs : List R} {v : V} (c : Cells K w Z μ st H) (e : lsrOf st r = some xs) (h : RR K w (Fb Z μ) μ H r v) : ∃ n a us, r = .loc n ∧ μ[n]? = some a ∧ v = .ref a ∧ H a = some (.lst us) ∧ RRs K w (Fb Z μ) μ H xs us := by
  cases h with
  | w h => cases e
  | @loc n a h =>
    unfold lsrOf at e
    simp only at e
    cases q : st[n]? with
    | none => rw [q] at e; cases e
    | some ce =>
      rw [q] at e
      cases ce <;> first | cases e | skip
      cases c.ok n _ a q h with
      | lsr e1 r => exact ⟨n, a, _, rfl, h, rfl, e1, r⟩
theorem RR.ndictS {r : R} {kvs : List (W × W)} {v : V} (c : Cells K w Z μ st H) (e : ndictOf st r = some kvs) (h : RR K w (Fb Z μ) μ H r v) : ∃ a ents, v = .ref a ∧ Rd H a (.ext (DN a ents)) ∧ REs K w (Fb Z μ) H kvs ents := by
  cases h with
  | w h =>
    cases h <;> first | cases e | skip
    rename_i a us e1 _ r
    exact ⟨_, _, rfl, .inr ⟨_, e1⟩, r⟩
  | @loc n a h =>
    unfold ndictOf at e
    simp only at e
    cases q : st[n]? with
    | none => rw [q] at e; cases e
    | some ce =>
      rw [q] at e
      cases ce <;> first | cases e | skip
      rename_i b kvs'
      cases b <;> first | cases e | skip
      cases c.ok n _ a q h with
      | dicN e1 r => exact ⟨_, _, rfl, .inl e1, r⟩
theorem RR.bty {T : String} {r : R} {v : V} (c : Cells K w Z μ st H) (e : tyC T st r = true) (h : RR K w (Fb Z μ) μ H r v) : Bty K H T v := by
  unfold tyC at e
  by_cases h1 : T = "str"
  · rw [if_pos h1] at e
    split at e
    · exact .inl ⟨h1, _, h.str⟩
    · cases e
  · rw [if_neg h1] at e
    by_cases h2 : T = "list"
    · rw [if_pos h2] at e
      rcases Bool.or_eq_true_iff.mp e with e | e
      · obtain ⟨xs, ex⟩ := Option.isSome_iff_exists.mp e
        obtain ⟨a, us, rfl, h3, _⟩ := h.listS c ex
        exact .inr (.inl ⟨h2, a, us, rfl, .of h3⟩)
      · obtain ⟨xs, ex⟩ := Option.isSome_iff_exists.mp e
        obtain ⟨n, a, us, _, _, rfl, h3, _⟩ := h.lsrS c ex
        exact .inr (.inl ⟨h2, a, us, rfl, .of h3⟩)
    · rw [if_neg h2] at e
      obtain ⟨h3, e⟩ : T = "dict" ∧ ((dictOf st r).isSome || ((rcdOf st r).isSome || (ndictOf st r).isSome)) = true := by
        by_cases h3 : T = "dict"
        · rw [if_pos h3] at e; exact ⟨h3, e⟩
        · rw [if_neg h3] at e; cases e
      rcases Bool.or_eq_true_iff.mp e with e | e
      · obtain ⟨kvs, ex⟩ := Option.isSome_iff_exists.mp e
        obtain ⟨a, kus, rfl, h4, _⟩ := h.dictS c ex
        exact .inr (.inr ⟨h3, a, rfl, .inl ⟨kus, h4⟩⟩)
      · rcases Bool.or_eq_true_iff.mp e with e | e
        · obtain ⟨kvs, ex⟩ := Option.isSome_iff_exists.mp e
          obtain ⟨a, kus, rfl, h4, _⟩ := h.rcdS c ex
          exact .inr (.inr ⟨h3, a, rfl, .inl ⟨kus, .inl h4⟩⟩)
        · obtain ⟨kvs, ex⟩ := Option.isSome_iff_exists.mp e
          obtain ⟨a, kus, rfl, h4, _⟩ := h.ndictS c ex
          exact .inr (.inr ⟨h3, a, rfl, .inr ⟨kus, h4⟩⟩)
theorem Bty.is {pins : List (Addr × Obj)} {σ : L2.St} {s : Shared} {T : String} {x : V} {v : Value} (I : Inv X pins σ H s) (r : RelV x v) (ty : Bty X.K H T x) : s.TypeIs v T ∧ ∀ a, v = .ref a → ∃ ob, s.heap.get? a = some ob ∧ ob.dict = none := by
  rcases ty with ⟨rfl, z, rfl⟩ | ⟨rfl, p, xs, rfl, hq⟩ | ⟨rfl, p, rfl, hd⟩
  · exact tyV_is I r (show tyV X.K "str" (.str z) H from rfl)
  · exact tyV_is I r (show tyV X.K "list" (.ref p) H from .inl ⟨rfl, xs, hq⟩)
  · cases r
    have z : ∃ o, s.heap.get? p = some o ∧ o.ExactDict := by
      rcases hd with ⟨kvs, hk⟩ | ⟨ents, hk⟩
      · obtain ⟨_, _, _, _, o, _, _, e, ex, _⟩ := hk.ok I.hok
        exact ⟨o, e, ex⟩
      · obtain ⟨⟨_, _, o, _, _, e, ex, _⟩, _⟩ := hk.ok I.hok
        exact ⟨o, e, ex⟩
    obtain ⟨o, e, ex⟩ := z
    refine ⟨⟨o, e, ex.1⟩, fun a e2 => ?_⟩
    cases e2
    exact ⟨o, e, ex.2.1⟩
variable {o e : Expr} {es : List Expr} {name : Str} {apos cpos : Pos} {T id : String} {f : Mt} {fo : Env → M R} {g : Env → M (List R)}
def rdM (K : PySem.W.Frag) (w : World) (f : Mt) : V → List V → Hp → VK → Prop := fun x xs H Q => ∃ Z μ st r1 rs r st', Cells K w Z μ st H ∧ RR K w (Fb Z μ) μ H r1 x ∧ RRs K w (Fb Z μ) μ H rs xs ∧ f st r1 rs = some (r, st') ∧
  ∀ v μ' H', Nx μ H μ' H' → Cells K w Z μ' st' H' → RR K w (Fb Z μ') μ' H' r v → Q v H'
/-- the receiver is of that built-in class: for the kit's rule of methods -/
theorem ty_b : TyOk X T (fun x H => Bty X.K H T x) := fun _ _ _ _ _ _ I r ty => ty.is I r
/-- o.m(e, ..) by the kit's pe_mG -/
theorem q_bm {call : Expr} (h : PE X call (tMG (fun x H => Bty X.K H T x) (rdM X.K X.w f) (rd X.K X.w E fo) (rdA X.K X.w E g))) : QE X E call (eM T f fo g) := h.imp fun σ H Q hh => by
  obtain ⟨Z, μ, st, ρ, c, s, q⟩ := hh
  refine rd_step (f := fo) c s q fun r1 st1 μ1 H1 v1 n1 c1 s1 rv1 q1 => ?_
  by_cases ht : tyC T st1 r1 = true
  · simp only [ht, if_true] at q1
    refine ⟨rv1.bty c1 ht, rdA_step (f := g) c1 s1 q1 fun rs st2 μ2 H2 vs n2 c2 s2 rv2 q2 => ?_⟩
    unfold app at q2
    cases ef : f st2 r1 rs with
    | none => rw [ef] at q2; exact False.elim q2
    | some p =>
      obtain ⟨r, st'⟩ := p
      rw [ef] at q2
      exact ⟨Z, μ2, st2, r1, rs, r, st', c2, rv1.nx n2, rv2, ef, fun v μ' H' n' c' rv => q2 μ' H' n' c' v rv⟩
  · simp only [ht] at q1
    exact False.elim q1
/-- o.m() by the kit's pe_mG0 -/
theorem q_bm0 {call : Expr} (h : PE X call (tMG0 (fun x H => Bty X.K H T x) (rdM X.K X.w f) (rd X.K X.w E fo))) : QE X E call (eM T f fo aNil) := h.imp fun σ H Q hh => by
  obtain ⟨Z, μ, st, ρ, c, s, q⟩ := hh
  refine rd_step (f := fo) c s q fun r1 st1 μ1 H1 v1 n1 c1 s1 rv1 q1 => ?_
  by_cases ht : tyC T st1 r1 = true
  · simp only [ht, if_true] at q1
    refine ⟨rv1.bty c1 ht, ?_⟩
    have q2 : Sat X.K X.w E Z μ1 H1 σ (app f r1 [] st1) _ := q1
    unfold app at q2
    cases ef : f st1 r1 [] with
    | none => rw [ef] at q2; exact False.elim q2
    | some p =>
      obtain ⟨r, st'⟩ := p
      rw [ef] at q2
      exact ⟨Z, μ1, st1, r1, [], r, st', c1, rv1, .nil, ef, fun v μ' H' n' c' rv => q2 μ' H' n' c' v rv⟩
  · simp only [ht] at q1
    exact False.elim q1
theorem MtR.imp {r r' : V → List V → Hp → VK → Prop} (h : MtR X id r) (i : ∀ x xs H Q, r' x xs H Q → r x xs H Q) : MtR X id r' := fun pins s σ H x xs v us Q I rx rs q => h pins s σ H x xs v us Q I rx rs (i x xs H Q q)
end

/-! ### list.append, extend, pop -/
/-- write a cell -/
def putC (st : Sto) (r : R) (c : Cell) : Option Sto := match r with
  | .loc n => some (st.set n c)
  | _ => none
def apR : Mt := fun st x xs => match x, xs with
  | .loc n, [.w y] => match st[n]? with
    | some (.lst ys) => if fits (ys.length + 1) then some (.w .non, st.set n (.lst (ys ++ [y]))) else none
    | _ => none
  | _, _ => none
def exR : Mt := fun st x xs => match x, xs with
  | .loc n, [y] => match st[n]? with
    | some (.lst ys) => match listOf st y with
      | some zs => if fits (ys.length + zs.length) then some (.w .non, st.set n (.lst (ys ++ zs))) else none
      | none => none
    | _ => none
  | _, _ => none
def popR : Mt := fun st x xs => match x, xs with
  | .loc n, [] => match st[n]? with
    | some (.lst ys) => match ys[ys.length - 1]? with
      | some y => some (.w y, st.set n (.lst ys.dropLast))
      | none => none
    | _ => none
  | _, _ => none
/-- pop(i), i from 0 on -/
def popAtR : Mt := fun st x xs => match x, xs with
  | .loc n, [.w (.int i)] => match st[n]? with
    | some (.lst ys) => if 0 ≤ i then (match ys[i.toNat]? with
      | some y => if fits ys.length then some (.w y, st.set n (.lst (ys.eraseIdx i.toNat))) else none
      | none => none) else none
    | _ => none
  | _, _ => none
section
variable {X : Cx} {K : PySem.W.Frag} {w : World} {F : Addr → Prop} {Z : Addr → Prop} {μ : List Addr} {H : Hp} {st : Sto}
theorem RVs.erase : ∀ {xs : List W} {us : List V} (i : Nat), RVs K w F H xs us → RVs K w F H (xs.eraseIdx i) (us.eraseIdx i)
  | _, _, _, .nil => .nil
  | _, _, 0, .cons _ b => b
  | _, _, i + 1, .cons a b => .cons a (RVs.erase i b)
theorem RVs.dropLast {xs : List W} {us : List V} (r : RVs K w F H xs us) : RVs K w F H xs.dropLast us.dropLast := by
  rw [List.dropLast_eq_take, List.dropLast_eq_take, r.length]
  exact r.take _
/-- a list's cell is written -/
theorem cell_lst {n : Nat} {ys : List W} {v : V} (c : Cells K w Z μ st H) (e : st[n]? = some (.lst ys)) (h : RR K w (Fb Z μ) μ H (.loc n) v) : ∃ a us, v = .ref a ∧ μ[n]? = some a ∧ H a = some (.lst us) ∧ RVs K w (Fb Z μ) H ys us := by
  cases h with
  | loc h =>
    cases c.ok n _ _ e h with
    | lst e1 r => exact ⟨_, _, rfl, h, e1, r⟩
theorem cell_put {n : Nat} {ys : List W} {us : List V} {a : Addr} (c : Cells K w Z μ st H) (h : μ[n]? = some a) (r : RVs K w (Fb Z μ) H ys us) : Nx μ H μ (upd H a (.lst us)) ∧ Cells K w Z μ (st.set n (.lst ys)) (upd H a (.lst us)) :=
  ⟨Nx.write h, c.write h (.lst upd_same (r.nx (Nx.write h)))⟩
theorem mq_append : MtR X "list.append" (rdM X.K X.w apR) := by
  refine MtR.imp mt_append fun x xs H Q h => ?_
  obtain ⟨Z, μ, st, r1, rs, r, st', c, h1, h2, e, q⟩ := h
  unfold apR at e
  split at e
  · rename_i n y
    obtain ⟨v, rfl, h3⟩ := h2.one
    cases es : st[n]? with
    | none => rw [es] at e; cases e
    | some ce =>
      rw [es] at e
      cases ce <;> first | cases e | skip
      rename_i ys
      obtain ⟨hf, e⟩ := ite_some e
      cases e
      obtain ⟨a, us, rfl, hμ, ha, rv⟩ := cell_lst c es h1
      have hy : RV X.K X.w (Fb Z μ) H y v := by
        cases h3 with
        | w h => exact h
      obtain ⟨nx, cc⟩ := cell_put (us := us ++ [v]) c hμ (rv.append (.cons hy .nil))
      refine ⟨a, us, v, rfl, rfl, ha, ?_, q _ _ _ nx cc (.w .non)⟩
      have := of_decide_eq_true hf
      rw [← rv.length, sizeLine_eq]; omega
  · cases e
theorem mq_extend : MtR X "list.extend" (rdM X.K X.w exR) := by
  refine MtR.imp mt_extend fun x xs H Q h => ?_
  obtain ⟨Z, μ, st, r1, rs, r, st', c, h1, h2, e, q⟩ := h
  unfold exR at e
  split at e
  · rename_i n y
    obtain ⟨v, rfl, h3⟩ := h2.one
    cases es : st[n]? with
    | none => rw [es] at e; cases e
    | some ce =>
      rw [es] at e
      cases ce <;> first | cases e | skip
      rename_i ys
      simp only at e
      cases el : listOf st y with
      | none => rw [el] at e; cases e
      | some zs =>
        rw [el] at e
        obtain ⟨hf, e⟩ := ite_some e
        cases e
        obtain ⟨a, us, rfl, hμ, ha, rv⟩ := cell_lst c es h1
        obtain ⟨b, vs, rfl, hb, rz⟩ := h3.listS c el
        obtain ⟨nx, cc⟩ := cell_put (us := us ++ vs) c hμ (rv.append rz)
        exact ⟨a, b, us, vs, rfl, rfl, ha, hb, by rw [← rv.length, ← rz.length]; exact fits_le hf, q _ _ _ nx cc (.w .non)⟩
  · cases e
theorem mq_pop : MtR X "list.pop" (rdM X.K X.w popR) := by
  refine MtR.imp mt_pop fun x xs H Q h => ?_
  obtain ⟨Z, μ, st, r1, rs, r, st', c, h1, h2, e, q⟩ := h
  unfold popR at e
  split at e
  · rename_i n
    cases h2
    cases es : st[n]? with
    | none => rw [es] at e; cases e
    | some ce =>
      rw [es] at e
      cases ce <;> first | cases e | skip
      rename_i ys
      simp only at e
      cases el : ys[ys.length - 1]? with
      | none => rw [el] at e; cases e
      | some y =>
        rw [el] at e
        cases e
        obtain ⟨a, us, rfl, hμ, ha, rv⟩ := cell_lst c es h1
        obtain ⟨v, ev, ry⟩ := rv.get' el
        obtain ⟨nx, cc⟩ := cell_put (us := us.dropLast) c hμ rv.dropLast
        exact ⟨a, us, v, rfl, rfl, ha, by rw [← rv.length]; exact ev, q _ _ _ nx cc (.w (ry.nx nx))⟩
  · cases e
theorem mq_popAt : MtR X "list.pop" (rdM X.K X.w popAtR) := by
  refine MtR.imp mt_popAt fun x xs H Q h => ?_
  obtain ⟨Z, μ, st, r1, rs, r, st', c, h1, h2, e, q⟩ := h
  unfold popAtR at e
  split at e
  · rename_i n i
    obtain ⟨v, rfl, h3⟩ := h2.one
    cases es : st[n]? with
    | none => rw [es] at e; cases e
    | some ce =>
      rw [es] at e
      cases ce <;> first | cases e | skip
      rename_i ys
      obtain ⟨h0, e⟩ := ite_some'' e
      cases el : ys[i.toNat]? with
      | none => rw [el] at e; cases e
      | some y =>
        rw [el] at e
        obtain ⟨hf, e⟩ := ite_some e
        cases e
        obtain ⟨a, us, rfl, hμ, ha, rv⟩ := cell_lst c es h1
        obtain ⟨v', ev, ry⟩ := rv.get' el
        obtain ⟨nx, cc⟩ := cell_put (us := us.eraseIdx i.toNat) c hμ (rv.erase i.toNat)
        have hlt := (List.getElem?_eq_some_iff.mp ev).1
        have hfl := of_decide_eq_true hf
        have hl := rv.length
        have hix : seqIndex? i us.length = some i.toNat := by
          have := @atI_get _ us i v' (by
            have := atI_nat (xs := us) ev
            rw [Int.toNat_of_nonneg h0] at this
            exact this)
          obtain ⟨j, e1, e2, e3, _⟩ := this
          have : ixN us.length i = some i.toNat := by
            unfold ixN
            rw [if_pos h0, if_pos (by omega)]
          obtain ⟨e4, _⟩ := ixN_seq this
          exact e4
        exact ⟨a, us, i, i.toNat, v', rfl, by rw [h3.int], ha, by omega, by omega, hix, ev, q _ _ _ nx cc (.w (ry.nx nx))⟩
  · cases e
end

/-! ### d.get(k, x) -/
def getDR (st : Sto) (x k d : R) : Option R := match wOf st k with
  | none => none
  | some k => match dictOf st x with
    | some kvs => if flatK k then some (((findD kvs k).map R.w).getD d) else none
    | none => match rcdOf st x, k with
      | some fs, .str z => some ((findF fs z).getD d)
      | _, _ => none
def getR : Mt := fun st x xs => match xs with
  | [k] => (getDR st x k (.w .non)).map fun r => (r, st)
  | [k, d] => (getDR st x k d).map fun r => (r, st)
  | _ => none
section
variable {X : Cx} {K : PySem.W.Frag} {w : World} {F : Addr → Prop} {Z : Addr → Prop} {μ : List Addr} {H : Hp} {st : Sto}
theorem mt_dget1 (hu : X.A.units + 1 < cLine) : MtR X "dict.get" (fun x xs H Q => ∃ a y o, x = .ref a ∧ xs = [y] ∧ DGet H a y o ∧ Q (o.getD .non) H) := by
  intro pins s σ H x xs v us Q I rx rs h
  obtain ⟨a, y, o, rfl, rfl, g, q⟩ := h
  obtain ⟨u, rfl, ru⟩ := vals1 rs
  cases rx
  exact d_get1 hu I g ru fun w' s3 I3 rw' => ⟨_, H, I3, rw', q⟩
theorem mt_dget2 (hu : X.A.units + 1 < cLine) : MtR X "dict.get" (fun x xs H Q => ∃ a y d o, x = .ref a ∧ xs = [y, d] ∧ DGet H a y o ∧ Q (o.getD d) H) := by
  intro pins s σ H x xs v us Q I rx rs h
  obtain ⟨a, y, d, o, rfl, rfl, g, q⟩ := h
  obtain ⟨u, u', rfl, ru, ru'⟩ := vals2 rs
  cases rx
  exact d_get2 hu I g ru ru' fun w' s3 I3 rw' => ⟨_, H, I3, rw', q⟩
theorem getDR_ok {x k d r : R} {v y z : V} (c : Cells K w Z μ st H) (h1 : RR K w (Fb Z μ) μ H x v) (h2 : RR K w (Fb Z μ) μ H k y) (h3 : RR K w (Fb Z μ) μ H d z) (e : getDR st x k d = some r) : ∃ a o, v = .ref a ∧ DGet H a y o ∧ RR K w (Fb Z μ) μ H r (o.getD z) := by
  unfold getDR at e
  cases ek : wOf st k with
  | none => rw [ek] at e; cases e
  | some kw =>
    rw [ek] at e
    simp only at e
    cases ed : dictOf st x with
    | some kvs =>
      rw [ed] at e
      obtain ⟨fk, e⟩ := ite_some e
      obtain ⟨p, kus, rfl, rdd, rk⟩ := h1.dictS c ed
      have hv : RV K w (Fb Z μ) H kw y := by
        rcases h2.wS c ek with h | ⟨_, _, _, rfl, _⟩
        · exact h
        · cases fk
      obtain ⟨kk, rfl, ekk⟩ := flatK_key fk hv
      obtain ⟨f1, f2⟩ := rk.find ekk
      refine ⟨p, valV kus kk, rfl, .inl ⟨kus, kk, rdd, rfl, rfl⟩, ?_⟩
      subst e
      cases q : findD kvs kw with
      | none => rw [f2 q]; exact h3
      | some y' =>
        obtain ⟨v', e', rv⟩ := f1 y' q
        rw [e']; exact .w rv
    | none =>
      rw [ed] at e
      simp only at e
      split at e
      · rename_i fs zk er
        cases e
        obtain ⟨p, kus, rfl, e1, rk⟩ := h1.rcdS c er
        have hv : y = .str zk := h2.strW c ek
        subst hv
        obtain ⟨f1, f2⟩ := rk.find zk
        refine ⟨p, valV kus (.inr zk : Key), rfl, .inl ⟨kus, .inr zk, .inl e1, rfl, rfl⟩, ?_⟩
        cases q : findF fs zk with
        | none => rw [f2 q]; exact h3
        | some y' =>
          obtain ⟨v', e', rv⟩ := f1 y' q
          rw [e']; exact rv
      · cases e
theorem mq_get (hu : X.A.units + 1 < cLine) : MtR X "dict.get" (rdM X.K X.w getR) := by
  refine MtR.imp (MtR.or (mt_dget1 hu) (mt_dget2 hu)) fun x xs H Q h => ?_
  obtain ⟨Z, μ, st, r1, rs, r, st', c, h1, h2, e, q⟩ := h
  unfold getR at e
  split at e
  · obtain ⟨r', e1, e2⟩ := Option.map_eq_some_iff.mp e
    cases e2
    obtain ⟨y, rfl, h3⟩ := h2.one
    obtain ⟨a, o, rfl, g, rv⟩ := getDR_ok (d := .w .non) (z := .non) c h1 h3 (.w .non) e1
    exact .inl ⟨a, y, o, rfl, rfl, g, q _ _ _ (Nx.refl _ _) c rv⟩
  · obtain ⟨r', e1, e2⟩ := Option.map_eq_some_iff.mp e
    cases e2
    obtain ⟨y, z, rfl, h3, h4⟩ := h2.two
    obtain ⟨a, o, rfl, g, rv⟩ := getDR_ok c h1 h3 h4 e1
    exact .inr ⟨a, y, z, o, rfl, rfl, g, q _ _ _ (Nx.refl _ _) c rv⟩
  · cases e
end
end Iv
end
section
set_option Elab.async false
set_option linter.all false
set_option maxRecDepth 100000
set_option maxHeartbeats 4000000
/-! Iv.R11: order, minus, stores, assignments. -/
namespace Iv
open PySem PySem.Spec PyProof.Rows L2

/-! ### <=, minus -/
section
variable {X : Cx} {E : WX}
theorem oq_le : OpQ X (compareOp .LtE) leR := by
  refine OpR.imp (OpR.or op_le op_le_str) fun x y H Q h => ?_
  obtain ⟨Z, μ, st, r1, r2, r, c, h1, h2, e, q⟩ := h
  unfold leR at e
  split at e
  · cases e
    exact .inl ⟨_, _, h1.int, h2.int, q _ _ (Nx.refl _ _) c (.w (.bl _))⟩
  · cases e
    exact .inr ⟨_, _, h1.str, h2.str, q _ _ (Nx.refl _ _) c (.w (.bl _))⟩
  · cases e
def negR (_ : Sto) (x : R) : Option R := match x with
  | .w (.int i) => some (.w (.int (-i)))
  | _ => none
theorem q_neg {a : Expr} {f : Env → M R} {pos : Pos} (h : QE X E a f) : QE X E (.UnaryOp .USub a pos) (e1 negR f) := (pe_un un_neg h).imp fun σ H Q h => by
  obtain ⟨Z, μ, st, ρ, c, s, q⟩ := h
  refine rd_step (f := f) c s q fun r1 st1 μ1 H1 v1 n1 c1 s1 rv1 q1 => ?_
  obtain ⟨r, er, q2⟩ := q1.ofO
  unfold negR at er
  split at er
  · cases er
    exact ⟨_, rv1.int, q2.ok c1 _ (.w (.int _))⟩
  · cases er
end

/-! ### stores -/
def putD (kvs : List (W × W)) (k v : W) : List (W × W) := if kvs.any (fun p => keyEq p.1 k) then kvs.map (fun p => if keyEq p.1 k then (p.1, v) else p) else kvs ++ [(k, v)]
def putS (fs : List (Str × R)) (k : Str) (v : R) : List (Str × R) := if fs.any (fun p => decide (p.1 = k)) then fs.map (fun p => if p.1 = k then (p.1, v) else p) else fs ++ [(k, v)]
def setR (st : Sto) (o i v : R) : Option Sto := match o with
  | .loc n => match st[n]? with
    | some (.lst xs) => match i, v with
      | .w (.int k), .w x => (ixN xs.length k).map fun j => st.set n (.lst (xs.set j x))
      | _, _ => none
    | some (.dic false kvs) => match i, v with
      | .w k, .w x => if flatK k && fits (kvs.length + 1) then some (st.set n (.dic false (putD kvs k x))) else none
      | _, _ => none
    | some (.rcd fs) => match i with
      | .w (.str k) => if fits (fs.length + 1) then some (st.set n (.rcd (putS fs k v))) else none
      | _ => none
    | _ => none
  | _ => none
section
variable {K : PySem.W.Frag} {w : World} {F : Addr → Prop} {Z : Addr → Prop} {μ : List Addr} {H : Hp} {st : Sto}
def wK : Key → W
  | .inl i => .int i
  | .inr x => .str x
theorem keyEq_wK (k k' : Key) : keyEq (wK k) (wK k') = decide (k = k') := by
  cases k <;> cases k' <;> simp [keyEq, wK]
theorem flatK_wK {a : W} {v : V} (f : flatK a = true) (h : RV K w F H a v) : ∃ k : Key, v = kV k ∧ a = wK k := by
  obtain ⟨k, e1, e2⟩ := flatK_key f h
  refine ⟨k, e1, ?_⟩
  rw [e2]
  cases k <;> rfl
theorem RKs.any {k : Key} : ∀ {kvs : List (W × W)} {kus : List (Key × V)}, RKs K w F H kvs kus → kvs.any (fun p => keyEq p.1 (wK k)) = kus.any fun kv => decide (kv.1 = k)
  | _, _, .nil => rfl
  | _, _, .str (x := x) a b => by rw [List.any_cons, List.any_cons, RKs.any b, show (W.str x) = wK (.inr x) from rfl, keyEq_wK]
  | _, _, .int (i := i) a b => by rw [List.any_cons, List.any_cons, RKs.any b, show (W.int i) = wK (.inl i) from rfl, keyEq_wK]
theorem RKs.cons' {k : Key} {y : W} {r : List (W × W)} {v : V} {us : List (Key × V)} (a : RV K w F H y v) (b : RKs K w F H r us) : RKs K w F H ((wK k, y) :: r) ((k, v) :: us) := by
  cases k with
  | inl i => exact .int a b
  | inr i => exact .str a b
theorem RKs.inv : ∀ {kvs : List (W × W)} {kus : List (Key × V)}, RKs K w F H kvs kus → (kvs = [] ∧ kus = []) ∨ ∃ k y r v us, kvs = (wK k, y) :: r ∧ kus = (k, v) :: us ∧ RV K w F H y v ∧ RKs K w F H r us
  | _, _, .nil => .inl ⟨rfl, rfl⟩
  | _, _, .str (x := x) a b => .inr ⟨.inr x, _, _, _, _, rfl, rfl, a, b⟩
  | _, _, .int (i := i) a b => .inr ⟨.inl i, _, _, _, _, rfl, rfl, a, b⟩
theorem RKs.append {k : Key} {x : W} {v : V} (h : RV K w F H x v) : ∀ {kvs : List (W × W)} {kus : List (Key × V)}, RKs K w F H kvs kus → RKs K w F H (kvs ++ [(wK k, x)]) (kus ++ [(k, v)])
  | _, _, .nil => RKs.cons' h .nil
  | _, _, .str a b => .str a (RKs.append h b)
  | _, _, .int a b => .int a (RKs.append h b)
theorem RKs.repl {k : Key} {x : W} {v : V} (h : RV K w F H x v) : ∀ {kvs : List (W × W)} {kus : List (Key × V)}, RKs K w F H kvs kus → RKs K w F H (kvs.map fun p => if keyEq p.1 (wK k) then (p.1, x) else p) (kus.map fun kv => if kv.1 = k then (kv.1, v) else kv)
  | _, _, .nil => .nil
  | _, _, .str (x := z) a b => by
    rw [List.map_cons, List.map_cons]
    show RKs K w F H ((if keyEq (wK (.inr z)) (wK k) = true then _ else _) :: _) _
    rw [keyEq_wK]
    by_cases q : (Sum.inr z : Key) = k
    · rw [if_pos (decide_eq_true q), if_pos q]; exact .str h (RKs.repl h b)
    · rw [if_neg (by simpa using q), if_neg q]; exact .str a (RKs.repl h b)
  | _, _, .int (i := z) a b => by
    rw [List.map_cons, List.map_cons]
    show RKs K w F H ((if keyEq (wK (.inl z)) (wK k) = true then _ else _) :: _) _
    rw [keyEq_wK]
    by_cases q : (Sum.inl z : Key) = k
    · rw [if_pos (decide_eq_true q), if_pos q]; exact .int h (RKs.repl h b)
    · rw [if_neg (by simpa using q), if_neg q]; exact .int a (RKs.repl h b)
theorem RKs.put {k : Key} {x : W} {v : V} (h : RV K w F H x v) {kvs : List (W × W)} {kus : List (Key × V)} (r : RKs K w F H kvs kus) : RKs K w F H (putD kvs (wK k) x) (putK kus k v) := by
  unfold putD putK
  rw [r.any]
  by_cases q : (kus.any fun kv => decide (kv.1 = k)) = true
  · rw [if_pos q, if_pos q]; exact r.repl h
  · rw [if_neg q, if_neg q]; exact r.append h
theorem RRd.any {k : Str} : ∀ {fs : List (Str × R)} {kus : List (Key × V)}, RRd K w F μ H fs kus → fs.any (fun p => decide (p.1 = k)) = kus.any fun kv => decide (kv.1 = (.inr k : Key))
  | _, _, .nil => rfl
  | _, _, .cons a b => by rw [List.any_cons, List.any_cons, RRd.any b]; simp
theorem RRd.append {k : Str} {x : R} {v : V} (h : RR K w F μ H x v) : ∀ {kvs : List (Str × R)} {kus : List (Key × V)}, RRd K w F μ H kvs kus → RRd K w F μ H (kvs ++ [(k, x)]) (kus ++ [(.inr k, v)])
  | _, _, .nil => .cons h .nil
  | _, _, .cons a b => .cons a (RRd.append h b)
theorem RRd.repl {k : Str} {x : R} {v : V} (h : RR K w F μ H x v) : ∀ {kvs : List (Str × R)} {kus : List (Key × V)}, RRd K w F μ H kvs kus → RRd K w F μ H (kvs.map fun p => if p.1 = k then (p.1, x) else p) (kus.map fun kv => if kv.1 = (.inr k : Key) then (kv.1, v) else kv)
  | _, _, .nil => .nil
  | _, _, .cons (f := z) a b => by
    rw [List.map_cons, List.map_cons]
    by_cases q : z = k
    · rw [if_pos q, if_pos (by show (Sum.inr z : Key) = _; rw [q])]; exact .cons h (RRd.repl h b)
    · rw [if_neg q, if_neg (fun e => q (Sum.inr.inj e))]; exact .cons a (RRd.repl h b)
theorem RRd.put {k : Str} {x : R} {v : V} (h : RR K w F μ H x v) {kvs : List (Str × R)} {kus : List (Key × V)} (r : RRd K w F μ H kvs kus) : RRd K w F μ H (putS kvs k x) (putK kus (.inr k) v) := by
  unfold putS putK
  rw [r.any]
  by_cases q : (kus.any fun kv => decide (kv.1 = (.inr k : Key))) = true
  · rw [if_pos q, if_pos q]; exact r.repl h
  · rw [if_neg q, if_neg q]; exact r.append h
theorem RRd.nx {μ' : List Addr} {H' : Hp} (x : Nx μ H μ' H') {r : List (Str × R)} {v : List (Key × V)} (h : RRd K w (Fb Z μ) μ H r v) : RRd K w (Fb Z μ') μ' H' r v := h.mono x.kp fun _ _ => x.at
theorem RRf.nx {μ' : List Addr} {H' : Hp} (x : Nx μ H μ' H') {r : List (Str × R)} {v : List (Str × V)} (h : RRf K w (Fb Z μ) μ H r v) : RRf K w (Fb Z μ') μ' H' r v := h.mono x.kp fun _ _ => x.at
theorem RKs.nx {μ' : List Addr} {H' : Hp} (x : Nx μ H μ' H') {r : List (W × W)} {v : List (Key × V)} (h : RKs K w (Fb Z μ) H r v) : RKs K w (Fb Z μ') H' r v := h.mono x.kp
theorem REs.nx {μ' : List Addr} {H' : Hp} (x : Nx μ H μ' H') {r : List (W × W)} {v : List (Int × V × V)} (h : REs K w (Fb Z μ) H r v) : REs K w (Fb Z μ') H' r v := h.mono x.kp
end
def rdSet (K : PySem.W.Frag) (w : World) (f : Sto → R → R → R → Option Sto) : TSet := fun o i v H Q => ∃ Z μ st r1 r2 r3 st', Cells K w Z μ st H ∧ RR K w (Fb Z μ) μ H r1 o ∧ RR K w (Fb Z μ) μ H r2 i ∧ RR K w (Fb Z μ) μ H r3 v ∧ f st r1 r2 r3 = some st' ∧
  ∀ H', Nx μ H μ H' → Cells K w Z μ st' H' → Q H'
section
variable {X : Cx} {E : WX}
theorem PSet.imp {r r' : TSet} (h : PSet X r) (i : ∀ o i v H Q, r' o i v H Q → r o i v H Q) : PSet X r' := fun pins s σ H o j v ov iv u Q I a b c q => h pins s σ H o j v ov iv u Q I a b c (i o j v H Q q)
theorem PSet.or {r r' : TSet} (h : PSet X r) (h' : PSet X r') : PSet X (fun o i v H Q => r o i v H Q ∨ r' o i v H Q) := fun pins s σ H o j v ov iv u Q I a b c q => by
  rcases q with q | q
  · exact h pins s σ H o j v ov iv u Q I a b c q
  · exact h' pins s σ H o j v ov iv u Q I a b c q
theorem set_dict (hu : X.A.units + 1 < cLine) : PSet X (fun o i v H Q => ∃ a H', o = .ref a ∧ DPut H a i v H' ∧ Q H') := by
  intro pins s σ H o i v ov iv u Q I ro ri rv h
  obtain ⟨a, H', rfl, g, q⟩ := h
  cases ro
  exact d_setItem hu I g ri rv fun s' I' => ⟨H', I', q⟩
theorem sq_set (hu : X.A.units + 1 < cLine) : PSet X (rdSet X.K X.w setR) := by
  refine PSet.imp (PSet.or set_list (set_dict hu)) fun o i v H Q h => ?_
  obtain ⟨Z, μ, st, r1, r2, r3, st', c, h1, h2, h3, e, q⟩ := h
  unfold setR at e
  split at e
  · rename_i n
    obtain ⟨a, hμ, rfl⟩ : ∃ a, μ[n]? = some a ∧ o = .ref a := by
      cases h1 with
      | loc h => exact ⟨_, h, rfl⟩
    cases es : st[n]? with
    | none => rw [es] at e; cases e
    | some ce =>
      rw [es] at e
      have ok := c.ok n ce a es hμ
      cases ok with
      | lst ha rv =>
        simp only at e
        split at e
        · rename_i k x
          obtain ⟨j, e1, rfl⟩ := Option.map_eq_some_iff.mp e
          have hx : RV X.K X.w (Fb Z μ) H x v := by
            cases h3 with
            | w h => exact h
          obtain ⟨nx, cc⟩ := cell_put (us := _) c hμ (rv.set hx j)
          exact .inl ⟨a, _, k, j, rfl, h2.int, ha, by rw [← rv.length]; exact e1, q _ nx cc⟩
        · cases e
      | lsr ha rv => cases e
      | dicK ha rv =>
        simp only at e
        split at e
        · rename_i k x
          obtain ⟨hf, e⟩ := ite_some e
          obtain ⟨f1, f2⟩ := Bool.and_eq_true_iff.mp hf
          cases e
          have hx : RV X.K X.w (Fb Z μ) H x v := by
            cases h3 with
            | w h => exact h
          have hk : RV X.K X.w (Fb Z μ) H k i := by
            cases h2 with
            | w h => exact h
          obtain ⟨kk, rfl, rfl⟩ := flatK_wK f1 hk
          refine .inr ⟨a, _, rfl, DPut.k (v := v) ha (by have := of_decide_eq_true f2; rw [← rv.length, sizeLine_eq]; omega), q _ (Nx.write hμ) (c.write hμ (.dicK upd_same ((rv.put hx).nx (Nx.write hμ))))⟩
        · cases e
      | dicN ha rv => cases e
      | rcd ha rv =>
        simp only at e
        split at e
        · rename_i k
          obtain ⟨hf, e⟩ := ite_some e
          cases e
          have hi := h2.str
          subst hi
          exact .inr ⟨a, _, rfl, DPut.k (k := (.inr k : Key)) (v := v) ha (by have := of_decide_eq_true hf; rw [← rv.length, sizeLine_eq]; omega), q _ (Nx.write hμ) (c.write hμ (.rcd upd_same ((rv.put h3).nx (Nx.write hμ))))⟩
        · cases e
      | ins ha rv => cases e
  · cases e
end

/-! ### targets that write -/
section
variable {X : Cx} {E : WX}
def rdGM (K : PySem.W.Frag) (w : World) (E : WX) (g : R → Env → M Env) : TG := fun v σ H Q => ∃ Z μ st ρ r, Cells K w Z μ st H ∧ RS K w (Fb Z μ) μ H ρ σ ∧ RR K w (Fb Z μ) μ H r v ∧
  Sat K w E Z μ H σ (g r ρ st) fun ρ' _ μ' H' => ∀ σ', RS K w (Fb Z μ') μ' H' ρ' σ' → Q σ' H'
def rdGMs (K : PySem.W.Frag) (w : World) (E : WX) (g : List W → Env → M Env) : TGs := fun vs σ H Q => ∃ Z μ st ρ xs, Cells K w Z μ st H ∧ RS K w (Fb Z μ) μ H ρ σ ∧ RVs K w (Fb Z μ) H xs vs ∧
  Sat K w E Z μ H σ (g xs ρ st) fun ρ' _ μ' H' => ∀ σ', RS K w (Fb Z μ') μ' H' ρ' σ' → Q σ' H'
abbrev QGM (X : Cx) (E : WX) (tg : Expr) (g : R → Env → M Env) : Prop := PG X tg (rdGM X.K X.w E g)
abbrev QGMs (X : Cx) (E : WX) (tg : List Expr) (g : List W → Env → M Env) : Prop := PGs X tg (rdGMs X.K X.w E g)
def mN (i : Nat) (r : R) (ρ : Env) : M Env := ret (ρ.set i (some r))
def mSub (fo fi : Env → M R) (r : R) (ρ : Env) : M Env := bnd (fo ρ) fun o => bnd (fi ρ) fun i st => match setR st o i r with
  | some st' => .ok ρ st'
  | none => .bad
def msNil (xs : List W) (ρ : Env) : M Env := match xs with
  | [] => ret ρ
  | _ => fail
def msCons (g : R → Env → M Env) (h : List W → Env → M Env) (xs : List W) (ρ : Env) : M Env := match xs with
  | x :: r => bnd (g (.w x) ρ) fun ρ' => h r ρ'
  | [] => fail
def mTp (n : Nat) (g : List W → Env → M Env) (r : R) (ρ : Env) : M Env := match r with
  | .w (.tup xs) => if xs.length = n then g xs ρ else fail
  | _ => fail
theorem q_mn {i : Nat} {x : Str} {pos : Pos} (hN : X.N.Nodup) (hi : X.N[i]? = some x) (hx : Loc X.env.scope x) (hf : X.fn x = true ∨ X.env.scope.names.lookup x = some .local := by first | exact .inl rfl | exact .inr rfl | assumption) : QGM X E (.Name x pos) (mN i) :=
  (pg_name hN hi hx hf).imp fun v σ H Q h => by
    obtain ⟨Z, μ, st, ρ, r, c, s, rv, q⟩ := h
    exact q.ok c _ (s.set i rv)
theorem q_msub (hu : X.A.units + 1 < cLine) {o i : Expr} {fo fi : Env → M R} {pos : Pos} (ho : QE X E o fo) (hi : QE X E i fi)
    (ha : ∀ v, assign (.Subscript o i pos) X.env v = (do
      let ov ← holding [v] (eval o X.env)
      let iv ← holding [v, ov] (eval i X.env)
      standAt pos
      holding [v, ov, iv] (setItem ov iv v)
      release [v, ov, iv] []) := by intro _; rfl) : QGM X E (.Subscript o i pos) (mSub fo fi) :=
  (pg_sub ho hi (sq_set hu) ha).imp fun v σ H Q h => by
    obtain ⟨Z, μ, st, ρ, r, c, s, rv, q⟩ := h
    refine rd_step (f := fo) c s q fun r1 st1 μ1 H1 v1 n1 c1 s1 rv1 q1 => ?_
    refine rd_step (f := fi) c1 s1 q1 fun r2 st2 μ2 H2 v2 n2 c2 s2 rv2 q2 => ?_
    cases es : setR st2 r1 r2 r with
    | none => simp only [es] at q2; exact False.elim q2
    | some st' =>
      simp only [es] at q2
      exact ⟨Z, μ2, st2, r1, r2, r, st', c2, rv1.nx n2, rv2, (rv.nx n1).nx n2, es, fun H' n' c' => q2 μ2 H' n' c' σ (s2.nx n')⟩
theorem q_msnil : QGMs X E [] msNil := pgs_nil.imp fun v σ H Q h => by
  obtain ⟨Z, μ, st, ρ, xs, c, s, rv, q⟩ := h
  unfold msNil at q
  split at q
  · cases rv
    exact ⟨rfl, q.ok c σ s⟩
  · exact False.elim q
theorem Sat.slots {K : PySem.W.Frag} {w : World} {Z : Addr → Prop} {μ : List Addr} {H : Hp} {σ σ' : L2.St} {α : Type} {r : Res α} {k : α → Sto → List Addr → Hp → Prop} (hE : ∀ c d H, E c d σ H → E c d σ' H) (h : Sat K w E Z μ H σ r k) : Sat K w E Z μ H σ' r k := by
  cases r with
  | ok a st' => exact h
  | exc x st' => exact fun μ' H' cls d n c rx => hE _ _ _ (h μ' H' cls d n c rx)
  | bad => exact h
/-- nothing is raised within a target -/
theorem q_mscons {e : Expr} {es : List Expr} {g : R → Env → M Env} {h : List W → Env → M Env} (h1 : QGM X WX0 e g) (h2 : QGMs X WX0 es h)
    (hs : (assignEach (e :: es) X.env).map (·.2) = assign e X.env :: (assignEach es X.env).map (·.2) := by rfl) : QGMs X WX0 (e :: es) (msCons g h) := (pgs_cons h1 h2 hs).imp fun v σ H Q hh => by
  obtain ⟨Z, μ, st, ρ, xs, c, s, rv, q⟩ := hh
  unfold msCons at q
  split at q
  · cases rv with
    | cons a b =>
      refine ⟨_, _, rfl, Z, μ, st, ρ, _, c, s, .w a, q.bnd.mono fun ρ1 st1 μ1 H1 n1 c1 q1 σ1 s1 => ?_⟩
      exact ⟨Z, μ1, st1, ρ1, _, c1, s1, b.nx n1, q1.slots fun _ _ _ h => h⟩
  · exact False.elim q
theorem q_mtp {es : List Expr} {k n : Nat} {g : List W → Env → M Env} {pos : Pos} (hc : X.calm = true) (h : QGMs X E es g) (hn : (assignEach es X.env).length = n := by rfl) (hst : (assignEach es X.env).findIdx? (·.1) = none := by rfl) : QGM X E (.Tuple es k pos) (mTp n g) :=
  (pg_tup hc h hn hst).imp fun v σ H Q hh => by
    obtain ⟨Z, μ, st, ρ, r, c, s, rv, q⟩ := hh
    unfold mTp at q
    split at q
    · rename_i xs
      obtain ⟨hl, q⟩ := q.ite
      obtain ⟨a, us, rfl, sq, rvs⟩ := rv.tupS
      exact ⟨a, us, rfl, sq, by rw [← rvs.length]; exact hl, Z, μ, st, ρ, xs, c, s, rvs, q⟩
    · exact False.elim q
/-- target = value -/
def sAsg (f : Env → M R) (g : R → Env → M Env) : Env → SM := fun ρ => bndS ρ (f ρ) fun r => bnd (nox (g r ρ)) fun ρ' => ret (.nx, ρ')
theorem q_asg {tg e : Expr} {f : Env → M R} {g : R → Env → M Env} {pos : Pos} (he : QE X E e f) (hg : QGM X WX0 tg g) (hs : swapsWithSole [tg] e pos.line X.env = pure false := by rfl) (hw : swappedStores [tg] e X.env = pure none := by rfl)
    (h1 : (assignEach [tg] X.env).map (·.2) = [assign tg X.env] := by rfl) : QS X E (.Assign [tg] e pos) (sAsg f g) := (ps_asg he hg hs hw h1).imp fun D σ H h => by
  obtain ⟨Z, μ, st, ρ, c, s, q⟩ := h
  refine rdS_step (f := f) (k := fun r => bnd (nox (g r ρ)) fun ρ' => ret (.nx, ρ')) c s q fun r1 st1 μ1 H1 v1 n1 c1 s1 rv1 q1 => ?_
  exact ⟨Z, μ1, st1, ρ, r1, c1, s1, rv1, (Sat.nox q1.bnd).mono fun ρ' st' μ' H' n' c' q2 σ' s' => (q2.ok c' : ∀ σ', _ → _) σ' s'⟩
/-- a, b = x, y -/
def sPar (i j : Nat) (g : Env → M (List R)) : Env → SM := fun ρ => bndS ρ (g ρ) fun rs => match rs with
  | [a, b] => ret (.nx, (ρ.set i (some a)).set j (some b))
  | _ => fail
theorem q_par {i j : Nat} {x y : Str} {a b : Expr} {g : Env → M (List R)} {px py pt pos : Pos} {kt k2 pt2} (hc : X.calm = true) (hN : X.N.Nodup) (hi : X.N[i]? = some x) (hj : X.N[j]? = some y) (hij : i ≠ j)
    (hx : X.env.scope.names.lookup x = some .local) (hy : X.env.scope.names.lookup y = some .local) (ha : QA X E [a, b] g)
    (hw : swappedStores [.Tuple [.Name x px, .Name y py] kt pt] (.Tuple [a, b] k2 pt2) X.env = pure (some [x, y]) := by rfl)
    (hs : swapsWithSole [.Tuple [.Name x px, .Name y py] kt pt] (.Tuple [a, b] k2 pt2) pos.line X.env = pure false := by rfl) :
    QS X E (.Assign [.Tuple [.Name x px, .Name y py] kt pt] (.Tuple [a, b] k2 pt2) pos) (sPar i j g) := (ps_par hc hN hi hj hij hx hy ha hw hs).imp fun D σ H h => by
  obtain ⟨Z, μ, st, ρ, c, s, q⟩ := h
  refine rdSA_step (f := g) (k := fun rs => match rs with
  | [a, b] => ret (.nx, (ρ.set i (some a)).set j (some b))
  | _ => fail) c s q fun r1 st1 μ1 H1 v1 n1 c1 s1 rv1 q1 => ?_
  split at q1
  · obtain ⟨v, v', rfl, h1, h2⟩ := rv1.two
    exact ⟨v, v', rfl, (q1.ok c1 : ∀ σ', _ → _) _ ((s1.set i h1).set j h2)⟩
  · exact False.elim q1
def sPar3 (i j l : Nat) (g : Env → M (List R)) : Env → SM := fun ρ => bndS ρ (g ρ) fun rs => match rs with
  | [a, b, c] => ret (.nx, ((ρ.set i (some a)).set j (some b)).set l (some c))
  | _ => fail
theorem RRs.three {K : PySem.W.Frag} {w : World} {F : Addr → Prop} {μ : List Addr} {H : Hp} {r r' r'' : R} {vs : List V} (h : RRs K w F μ H [r, r', r''] vs) : ∃ v v' v'', vs = [v, v', v''] ∧ RR K w F μ H r v ∧ RR K w F μ H r' v' ∧ RR K w F μ H r'' v'' := by
  cases h with
  | cons a b =>
    cases b with
    | cons b c =>
      cases c with
      | cons c d => cases d; exact ⟨_, _, _, rfl, a, b, c⟩
theorem q_par3 {i j l : Nat} {x y z : Str} {a b c : Expr} {g : Env → M (List R)} {px py pz pt pos : Pos} {kt k2 pt2} (hc : X.calm = true) (hN : X.N.Nodup) (hi : X.N[i]? = some x) (hj : X.N[j]? = some y) (hl : X.N[l]? = some z) (hij : i ≠ j) (hil : i ≠ l) (hjl : j ≠ l)
    (hx : X.env.scope.names.lookup x = some .local) (hy : X.env.scope.names.lookup y = some .local) (hz : X.env.scope.names.lookup z = some .local) (ha : QA X E [a, b, c] g)
    (hw : swappedStores [.Tuple [.Name x px, .Name y py, .Name z pz] kt pt] (.Tuple [a, b, c] k2 pt2) X.env = pure (some [x, y, z]) := by rfl)
    (hs : swapsWithSole [.Tuple [.Name x px, .Name y py, .Name z pz] kt pt] (.Tuple [a, b, c] k2 pt2) pos.line X.env = pure false := by rfl) :
    QS X E (.Assign [.Tuple [.Name x px, .Name y py, .Name z pz] kt pt] (.Tuple [a, b, c] k2 pt2) pos) (sPar3 i j l g) := (ps_par3 hc hN hi hj hl hij hil hjl hx hy hz ha hw hs).imp fun D σ H h => by
  obtain ⟨Z, μ, st, ρ, c, s, q⟩ := h
  refine rdSA_step (f := g) (k := fun rs => match rs with
  | [a, b, c] => ret (.nx, ((ρ.set i (some a)).set j (some b)).set l (some c))
  | _ => fail) c s q fun r1 st1 μ1 H1 v1 n1 c1 s1 rv1 q1 => ?_
  split at q1
  · obtain ⟨v, v', v'', rfl, h1, h2, h3⟩ := rv1.three
    exact ⟨v, v', v'', rfl, (q1.ok c1 : ∀ σ', _ → _) _ (((s1.set i h1).set j h2).set l h3)⟩
  · exact False.elim q1
end

/-! ### fields -/
def putFd (f : Str) (r : R) : List (Str × R) → List (Str × R)
  | [] => [(f, r)]
  | (g, x) :: t => if g = f then (g, r) :: t else (g, x) :: putFd f r t
def fputR (cn f : Str) (st : Sto) (o v : R) : Option Sto := match o with
  | .loc n => match st[n]? with
    | some (.ins c fs) => if c = cn then (if fs.length < 1000 then some (st.set n (.ins c (putFd f v fs))) else none) else none
    | _ => none
  | _ => none
/-- o.f = v: the value first -/
def sFld (cn f : Str) (fo fv : Env → M R) : Env → SM := fun ρ => bndS ρ (fv ρ) fun v => bndS ρ (fo ρ) fun o st => match fputR cn f st o v with
  | some st' => .ok (.nx, ρ) st'
  | none => .bad
/-- o.f += v, ints -/
def sFldAdd (cn f : Str) (fo fv : Env → M R) : Env → SM := fun ρ => bndS ρ (fo ρ) fun o => fun st => match fldR cn f st o with
  | some (.w (.int i)) => bndS ρ (fv ρ) (fun v st1 => match v with
    | .w (.int j) => (match fputR cn f st1 o (.w (.int (i + j))) with
      | some st' => .ok (.nx, ρ) st'
      | none => .bad)
    | _ => .bad) st
  | _ => .bad
section
variable {X : Cx} {E : WX} {K : PySem.W.Frag} {w : World} {F : Addr → Prop} {Z : Addr → Prop} {μ : List Addr} {H : Hp} {st : Sto}
theorem RRf.put {f : Str} {x : R} {v : V} (h : RR K w F μ H x v) : ∀ {fs : List (Str × R)} {us : List (Str × V)}, RRf K w F μ H fs us → RRf K w F μ H (putFd f x fs) (putF f v us)
  | _, _, .nil => .cons h .nil
  | _, _, .cons (f := g) a b => by
    unfold putFd putF
    by_cases q : g = f
    · rw [if_pos q, if_pos q]; exact .cons h b
    · rw [if_neg q, if_neg q]; exact .cons a (RRf.put h b)
theorem RRf.length : ∀ {fs : List (Str × R)} {us : List (Str × V)}, RRf K w F μ H fs us → fs.length = us.length
  | _, _, .nil => rfl
  | _, _, .cons _ b => by simp [RRf.length b]
theorem fput_ok {cn f : Str} {o r : R} {x y : V} {st' : Sto} (c : Cells K w Z μ st H) (ho : RR K w (Fb Z μ) μ H o x) (hv : RR K w (Fb Z μ) μ H r y) (e : fputR cn f st o r = some st') :
    ∃ a dx us, x = .ref a ∧ H a = some (.ins (He.ga K cn) dx us) ∧ us.length < 1000 ∧ Nx μ H μ (upd H a (.ins (He.ga K cn) dx (putF f y us))) ∧ Cells K w Z μ st' (upd H a (.ins (He.ga K cn) dx (putF f y us))) := by
  unfold fputR at e
  split at e
  · rename_i n
    cases es : st[n]? with
    | none => rw [es] at e; cases e
    | some ce =>
      rw [es] at e
      cases ce <;> first | cases e | skip
      obtain ⟨hc, e⟩ := ite_some'' e
      obtain ⟨hl, e⟩ := ite_some'' e
      cases e
      subst hc
      cases ho with
      | loc hμ =>
        cases c.ok n _ _ es hμ with
        | ins h1 h2 =>
          exact ⟨_, _, _, rfl, h1, by rw [← h2.length]; exact hl, Nx.write hμ, c.write hμ (.ins upd_same ((h2.put hv).nx (Nx.write hμ)))⟩
  · cases e
theorem q_fset {cn f : Str} {o e : Expr} {fo fv : Env → M R} {pos pos' : Pos} (hc : Cls X.K (He.ga X.K cn)) (hn : NoAttr X.K (He.ga X.K cn) f) (ho : QE X E o fo) (hv : QE X E e fv) (hs : swapsWith e (some (.Attribute o f pos')) pos.line X.env = pure false := by rfl) :
    QS X E (.Assign [.Attribute o f pos'] e pos) (sFld cn f fo fv) := (ps_fld ho hv hs).imp fun D σ H h => by
  obtain ⟨Z, μ, st, ρ, c, s, q⟩ := h
  refine rdS_step (f := fv) (k := fun v => bndS ρ (fo ρ) fun o st => match fputR cn f st o v with
  | some st' => .ok (.nx, ρ) st'
  | none => .bad) c s q fun r1 st1 μ1 H1 v1 n1 c1 s1 rv1 q1 => ?_
  refine rdS_step (f := fo) (k := fun o st => match fputR cn f st o r1 with
  | some st' => .ok (.nx, ρ) st'
  | none => .bad) c1 s1 q1 fun r2 st2 μ2 H2 v2 n2 c2 s2 rv2 q2 => ?_
  cases es : fputR cn f st2 r2 r1 with
  | none => simp only [es] at q2; exact False.elim q2
  | some st' =>
    simp only [es] at q2
    obtain ⟨a, dx, us, rfl, h1, h2, nx, cc⟩ := fput_ok c2 rv2 (rv1.nx n2) es
    exact ⟨a, _, dx, us, rfl, h1, hc, hn, h2, (q2 _ _ nx cc : ∀ σ', _ → _) σ (s2.nx nx)⟩
theorem q_faug {cn f : Str} {o e : Expr} {fo fv : Env → M R} {pos pos' : Pos} (hc : Cls X.K (He.ga X.K cn)) (hn : NoAttr X.K (He.ga X.K cn) f) (ho : QE X E o fo) (hv : QE X E e fv) :
    QS X E (.AugAssign (.Attribute o f pos') .Add e pos) (sFldAdd cn f fo fv) := (ps_fldaug ho hv in_add).imp fun D σ H h => by
  obtain ⟨Z, μ, st, ρ, c, s, q⟩ := h
  refine rdS_step (f := fo) c s q fun r1 st1 μ1 H1 v1 n1 c1 s1 rv1 q1 => ?_
  cases ef : fldR cn f st1 r1 with
  | none => simp only [ef] at q1; exact False.elim q1
  | some r =>
    simp only [ef] at q1
    obtain ⟨a, dx, us, u, rfl, h1, e2, rv⟩ := rv1.fld c1 ef
    split at q1
    · rename_i i hi
      cases hi
      have hu := rv.int
      subst hu
      refine ⟨a, _, dx, us, _, rfl, h1, hc, hn, e2, ?_⟩
      refine rdS_step (f := fv) c1 s1 q1 fun r2 st2 μ2 H2 v2 n2 c2 s2 rv2 q2 => ?_
      split at q2
      · rename_i j
        refine ⟨i, j, rfl, rv2.int, ?_⟩
        cases es : fputR cn f st2 r1 (.w (.int (i + j))) with
        | none => simp only [es] at q2; exact False.elim q2
        | some st' =>
          simp only [es] at q2
          obtain ⟨a', dx', us', ea, h3, h4, nx, cc⟩ := fput_ok (y := .int (i + j)) c2 (rv1.nx n2) (.w (.int _)) es
          cases ea
          exact ⟨dx', us', h3, h4, (q2 _ _ nx cc : ∀ σ', _ → _) σ (s2.nx nx)⟩
      · exact False.elim q2
    · exact False.elim q1
end
end Iv
end
section
set_option Elab.async false
set_option linter.all false
set_option maxRecDepth 100000
set_option maxHeartbeats 4000000
/-! Iv.R12: calls without arguments, methods, makers, properties. -/
namespace Iv
open PySem PySem.Spec PyProof.Rows L2

/-! ### the kit's rules with exceptions by slots -/
section
variable {X : Cx} {CX : CXT} {k : Nat} {f C : Addr} {fd : FuncData} {ps : List Str} {sp : Sp} {E : L2.St → XK} {x m : Str} {p pos apos : Pos} {e o : Expr} {es : List Expr} {ta : TE} {t : TA}
theorem pe_call0S (F : FnOk X.prog X.w X.K X.mg X.base CX k f fd ps sp) (hr : Room k X.A) (hg : Gl X x) (hm : X.mg x = some (.ref f)) (hk : PySem.W.keepIn X.K (.ref f) = true) (hb : Binds X.K fd ps []) (hx : ∀ σ, PassesAt CX X σ (E σ)) (hdb : (x == ("__debug__" : Str)) = false := by decide) :
    PE X (.Call (.Name x p) [] [] pos) (fun σ H Q => sp [] H Q (E σ)) :=
  ⟨fun pins s σ H Q I h => wpAny_Call_Name_kw (ld_glob I hg hm (PySem.W.callWith_K0 I.kIn hk (run_fnSD (vs := []) (us := []) (dvs := []) F hr hb .nil (hx σ) I .nil h)) hdb)⟩
theorem pe_methS {pl : Sem Bool} (he : PE X o ta) (c : Cls X.K C) (hm : Meth X.K C m f) (F : FnOk X.prog X.w X.K X.mg X.base CX k f fd ps sp) (hr : Room k X.A) (hb : Binds X.K fd ps []) (hx : ∀ σ, PassesAt CX X σ (E σ)) (ha : PA X (e :: es) t)
    (hst : starEach (e :: es) X.env = (false, eval e X.env) :: starEach es X.env := by rfl) (hpl : (backTo pos (starEach es X.env)).any (·.1) = false := by rfl)
    (ht : eval (.Call (.Attribute o m apos) (e :: es) [] pos) X.env = (do let ov ← eval o X.env; standAt apos.atName; let (f, first) ← holding [ov] (getMethod ov m pl); callWith pos f first (backTo pos (starEach (e :: es) X.env)) (backToKw pos (keywordEach [] X.env))) := by rfl) :
    PE X (.Call (.Attribute o m apos) (e :: es) [] pos) (fun σ H Q => ta σ H fun x H1 => ∃ a dx fs, x = .ref a ∧ H1 a = some (.ins C dx fs) ∧ fs.lookup m = none ∧ t σ H1 fun vs H2 => sp (x :: vs) H2 Q (E σ)) := by
  refine ⟨fun pins s σ H Q I h => PySem.W.methodCall_KW (pl := pl) (thn (he.run pins s σ H _ I h) fun u s1 ⟨x, H1, I1, rx, a, dx, fs, ex, ea, l, q⟩ => ?_) ht⟩
  subst ex
  cases rx
  refine getmeth_ok I1 ea c hm l (PySem.W.callWith_K (first := [.ref a]) (h₀ := X.base) I.ok.mod.kin hm.kp (thn (ha.run pos pins s1 σ H1 _ I1 q) fun us s2 ⟨vs, H2, I2, r, q2⟩ => ⟨I2.kIn, ?_⟩) hst hpl)
  exact run_fnSD (us := .ref a :: us) (vs := .ref a :: vs) (dvs := []) F hr hb .nil (hx σ) I2 (.cons rfl r) (by rw [List.append_nil]; exact q2)
theorem pe_meth0S {pl : Sem Bool} (he : PE X o ta) (c : Cls X.K C) (hm : Meth X.K C m f) (F : FnOk X.prog X.w X.K X.mg X.base CX k f fd ps sp) (hr : Room k X.A) (hb : Binds X.K fd ps []) (hx : ∀ σ, PassesAt CX X σ (E σ))
    (ht : eval (.Call (.Attribute o m apos) [] [] pos) X.env = (do let ov ← eval o X.env; standAt apos.atName; let (f, first) ← holding [ov] (getMethod ov m pl); callWith pos f first (backTo pos (starEach [] X.env)) (backToKw pos (keywordEach [] X.env))) := by rfl) :
    PE X (.Call (.Attribute o m apos) [] [] pos) (fun σ H Q => ta σ H fun x H1 => ∃ a dx fs, x = .ref a ∧ H1 a = some (.ins C dx fs) ∧ fs.lookup m = none ∧ sp [x] H1 Q (E σ)) := by
  refine ⟨fun pins s σ H Q I h => PySem.W.methodCall_KW (pl := pl) (thn (he.run pins s σ H _ I h) fun u s1 ⟨x, H1, I1, rx, a, dx, fs, ex, ea, l, q⟩ => ?_) ht⟩
  subst ex
  cases rx
  refine getmeth_ok I1 ea c hm l (PySem.W.callWith_K0 (first := [.ref a]) I1.kIn hm.kp (run_fnSD (us := [.ref a]) (vs := [.ref a]) (dvs := []) F hr hb .nil (hx σ) I1 (.cons rfl .nil) q))
/-- C(..) -/
def SpMk (C : Addr) (sp : Sp) (E : XK) (vs : List V) (H : Hp) (Q : VK) : Prop := ∀ x dx, H x = none → H dx = none → dx ≠ x → sp (.ref x :: vs) (upd (upd H dx (.own x)) x (.ins C dx [])) (fun v H2 => v = .non ∧ Q (.ref x) H2) E
theorem run_makeS {pins : List (Addr × Obj)} {σ : L2.St} {H : Hp} {s : Shared} {Q : VK} {us : List Value} {vs : List V} {E : XK} (M : Mk X.K C f) (F : FnOk X.prog X.w X.K X.mg X.base CX k f fd ps sp) (hr : Room (k + 1) X.A) (hb : Binds X.K fd ps [])
    (hx : PassesAt CX X σ E) (I : Inv X pins σ H s) (r : Vals vs us) (h : SpMk C sp E vs H Q) : wpAny (model X.prog X.w) X.A (call (.ref C) us) (EP X pins σ Q) X.xe s := by
  let n := s.heap.objs.size
  have hq := h (n + 1) n (I.hok.fresh (Nat.le_succ _)) (I.hok.fresh (Nat.le_refl _)) (Nat.ne_of_lt (Nat.lt_succ_self _))
  have J := Inv.made (C := C) I
  have rr : Vals (V.ref (n + 1) :: vs) (Value.ref (n + 1) :: us) := .cons rfl r
  have hl : (Value.ref (n + 1) :: us).length = ps.length := rr.length.symm.trans (F.len _ _ _ _ hq)
  have hbt := hb _ (Value.ref (n + 1) :: us) J.kIn (by rw [List.append_nil]; exact hl)
  rw [List.append_nil] at hbt
  refine wpAny_call (make_map (f := f) I.kIn M.makes M.init (beq_iff_eq.mp M.fn) (codeAny_mono (F.run _ X.stack _ _ _ _ _ _ E (hr.make C us []) (J.env0.make C us []) hbt rr hq) fun r s' hq' => ?_))
  cases r with
  | error e => exact hx pins _ _ e s' J hq'
  | ok fl => cases fl with
    | ret u =>
      obtain ⟨v, H', J2, rv, ev, q3⟩ := J.after hq'
      subst ev
      exact ⟨rv, ⟨V.ref (n + 1), H', J2, rfl, q3⟩⟩
    | _ => exact False.elim hq'
theorem pe_makeS (M : Mk X.K C f) (F : FnOk X.prog X.w X.K X.mg X.base CX k f fd ps sp) (hr : Room (k + 1) X.A) (hg : Gl X x) (hm : X.mg x = some (.ref C)) (hb : Binds X.K fd ps []) (hx : ∀ σ, PassesAt CX X σ (E σ)) (ha : PA X (e :: es) t)
    (hdb : (x == ("__debug__" : Str)) = false := by decide) (he : starEach (e :: es) X.env = (false, eval e X.env) :: starEach es X.env := by rfl) (hpl : (backTo pos (starEach es X.env)).any (·.1) = false := by rfl) :
    PE X (.Call (.Name x p) (e :: es) [] pos) (fun σ H Q => t σ H fun vs H1 => SpMk C sp (E σ) vs H1 Q) :=
  ⟨fun pins s σ H Q I h => wpAny_Call_Name_kw (ld_glob I hg hm (PySem.W.callWith_K (h₀ := X.base) I.ok.mod.kin M.kp (thn (ha.run pos pins s σ H _ I h) fun us s1 ⟨vs, H1, I1, r, q⟩ => ⟨I1.kIn, run_makeS M F hr hb (hx σ) I1 r q⟩) he hpl) hdb)⟩
theorem pe_make0S (M : Mk X.K C f) (F : FnOk X.prog X.w X.K X.mg X.base CX k f fd ps sp) (hr : Room (k + 1) X.A) (hg : Gl X x) (hm : X.mg x = some (.ref C)) (hb : Binds X.K fd ps []) (hx : ∀ σ, PassesAt CX X σ (E σ)) (hdb : (x == ("__debug__" : Str)) = false := by decide) :
    PE X (.Call (.Name x p) [] [] pos) (fun σ H Q => SpMk C sp (E σ) [] H Q) :=
  ⟨fun pins s σ H Q I h => wpAny_Call_Name_kw (ld_glob I hg hm (PySem.W.callWith_K0 I.kIn M.kp (run_makeS (us := []) M F hr hb (hx σ) I .nil h)) hdb)⟩
end

/-! ### f(), o.m(..) -/
/-- an instance of the class, m none of its fields -/
def isIns (cn m : Str) (st : Sto) (r : R) : Bool := match r with
  | .w (.ins c fs) => decide (c = cn) && (fs.lookup m).isNone
  | .loc n => match st[n]? with
    | some (.ins c fs) => decide (c = cn) && (fs.lookup m).isNone
    | _ => false
  | _ => false
def eCall0 (n : Nat) (F : List R → M R) : Env → M R := fun _ => if 0 = n then F [] else fail
def eCallP0 (n : Nat) (F : List R → M R) : Env → M R := fun _ => if 0 = n then callP F [] else fail
def eMeth (cn m : Str) (n : Nat) (F : List R → M R) (fo : Env → M R) (g : Env → M (List R)) : Env → M R := fun ρ => bnd (fo ρ) fun o st => if isIns cn m st o then bnd (g ρ) (fun rs => if (o :: rs).length = n then F (o :: rs) else fail) st else .bad
def eMethP (cn m : Str) (n : Nat) (F : List R → M R) (fo : Env → M R) (g : Env → M (List R)) : Env → M R := fun ρ => bnd (fo ρ) fun o st => if isIns cn m st o then bnd (g ρ) (fun rs => if (o :: rs).length = n then callP F (o :: rs) else fail) st else .bad
section
variable {X : Cx} {E : WX} {K : PySem.W.Frag} {w : World} {F' : Addr → Prop} {Z : Addr → Prop} {μ : List Addr} {H : Hp} {st : Sto}
theorem RFs.noLook : ∀ {fs : List (Str × W)} {us : List (Str × V)} {f : Str}, RFs K w F' H fs us → fs.lookup f = none → us.lookup f = none
  | _, _, _, .nil, _ => rfl
  | _, _, f, .cons (f := g) a b, e => by
    rw [List.lookup_cons] at e ⊢
    cases q : (f == g) with
    | true => rw [q] at e; cases e
    | false => rw [q] at e; exact RFs.noLook b e
theorem RRf.noLook : ∀ {fs : List (Str × R)} {us : List (Str × V)} {f : Str}, RRf K w F' μ H fs us → fs.lookup f = none → us.lookup f = none
  | _, _, _, .nil, _ => rfl
  | _, _, f, .cons (f := g) a b, e => by
    rw [List.lookup_cons] at e ⊢
    cases q : (f == g) with
    | true => rw [q] at e; cases e
    | false => rw [q] at e; exact RRf.noLook b e
theorem RR.isIns {cn m : Str} {r : R} {v : V} (c : Cells K w Z μ st H) (e : Iv.isIns cn m st r = true) (h : RR K w (Fb Z μ) μ H r v) : ∃ a dx us, v = .ref a ∧ H a = some (.ins (He.ga K cn) dx us) ∧ us.lookup m = none := by
  cases h with
  | w h =>
    cases h <;> first | cases e | skip
    rename_i a dx c fs us h1 h2 h3
    unfold Iv.isIns at e
    obtain ⟨e1, e2⟩ := Bool.and_eq_true_iff.mp e
    have := of_decide_eq_true e1
    subst this
    exact ⟨a, dx, us, rfl, h1, h3.noLook (by simpa using e2)⟩
  | @loc n a h =>
    unfold Iv.isIns at e
    simp only at e
    cases q : st[n]? with
    | none => rw [q] at e; cases e
    | some ce =>
      rw [q] at e
      cases ce <;> first | cases e | skip
      obtain ⟨e1, e2⟩ := Bool.and_eq_true_iff.mp e
      have := of_decide_eq_true e1
      subst this
      cases c.ok n _ a q h with
      | ins h1 h3 => exact ⟨a, _, _, rfl, h1, h3.noLook (by simpa using e2)⟩
variable {x : Str} {f : Addr} {k n : Nat} {F : List R → M R} {g : Env → M (List R)} {e : Expr} {es : List Expr} {p pos apos : Pos} {cn m : Str} {o : Expr} {fo : Env → M R}
theorem q_call0 (G : FnX X f k n F) (hr : Room k X.A) (hg : Gl X x) (hm : X.mg x = some (.ref f)) (tk : Takes X E) (hdb : (x == ("__debug__" : Str)) = false := by decide) : QE X E (.Call (.Name x p) [] [] pos) (eCall0 n F) := by
  obtain ⟨⟨fd, ps, hb, hl, ok⟩, kp⟩ := G
  refine (pe_call0S (E := WE E) ok hr hg hm kp hb (fun σ => passAt tk σ) hdb).imp fun σ H Q ⟨Z, μ, st, ρ, c, s, q⟩ => ?_
  exact sp_shared (rs := []) c .nil q
theorem q_callP0 (G : FnX X f k n F) (hr : Room k X.A) (hg : Gl X x) (hm : X.mg x = some (.ref f)) (tk : Takes X E) (hdb : (x == ("__debug__" : Str)) = false := by decide) : QE X E (.Call (.Name x p) [] [] pos) (eCallP0 n F) := by
  obtain ⟨⟨fd, ps, hb, hl, ok⟩, kp⟩ := G
  refine (pe_call0S (E := WE E) ok hr hg hm kp hb (fun σ => passAt tk σ) hdb).locks.imp fun σ H Q ⟨Z, μ, st, ρ, c, s, q⟩ => ?_
  exact sp_pure (rs := []) c .nil q
theorem meth_read {G : List R → M R} (T : VK → VK) (hG : ∀ {Z : Addr → Prop} {μ : List Addr} {H : Hp} {σ : L2.St} {st : Sto} {rs : List R} {vs : List V} {Q : VK}, Cells X.K X.w Z μ st H → RRs X.K X.w (Fb Z μ) μ H rs vs → Sat X.K X.w E Z μ H σ ((if rs.length = n then G rs else fail) st) (fun r _ μ' H' => ∀ v, RR X.K X.w (Fb Z μ') μ' H' r v → Q v H') → spF X.K X.w n F vs H (T Q) (WE E σ))
    {σ : L2.St} {H : Hp} {Q : VK} (h : rd X.K X.w E (fun ρ => bnd (fo ρ) fun o st => if isIns cn m st o then bnd (g ρ) (fun rs => if (o :: rs).length = n then G (o :: rs) else fail) st else .bad) σ H Q) :
    rd X.K X.w E fo σ H fun x H1 => ∃ a dx fs, x = .ref a ∧ H1 a = some (.ins (He.ga X.K cn) dx fs) ∧ fs.lookup m = none ∧ rdA X.K X.w E g σ H1 fun vs H2 => spF X.K X.w n F (x :: vs) H2 (T Q) (WE E σ) := by
  obtain ⟨Z, μ, st, ρ, c, s, q⟩ := h
  refine rd_step (f := fo) c s q fun r1 st1 μ1 H1 v1 n1 c1 s1 rv1 q1 => ?_
  by_cases hi : isIns cn m st1 r1 = true
  · simp only [hi, if_true] at q1
    obtain ⟨a, dx, us, rfl, h1, h2⟩ := rv1.isIns c1 hi
    refine ⟨a, dx, us, rfl, h1, h2, rdA_step (f := g) c1 s1 q1 fun rs st2 μ2 H2 vs n2 c2 s2 rv2 q2 => ?_⟩
    exact hG c2 (.cons (rv1.nx n2) rv2) q2
  · simp only [hi] at q1
    exact False.elim q1
theorem q_meth {pl : Sem Bool} (G : FnX X f k n F) (hr : Room k X.A) (hc : Cls X.K (He.ga X.K cn)) (hm : Meth X.K (He.ga X.K cn) m f) (tk : Takes X E) (ho : QE X E o fo) (ha : QA X E (e :: es) g)
    (hst : starEach (e :: es) X.env = (false, eval e X.env) :: starEach es X.env := by rfl) (hpl : (backTo pos (starEach es X.env)).any (·.1) = false := by rfl)
    (ht : eval (.Call (.Attribute o m apos) (e :: es) [] pos) X.env = (do let ov ← eval o X.env; standAt apos.atName; let (f, first) ← holding [ov] (getMethod ov m pl); callWith pos f first (backTo pos (starEach (e :: es) X.env)) (backToKw pos (keywordEach [] X.env))) := by rfl) :
    QE X E (.Call (.Attribute o m apos) (e :: es) [] pos) (eMeth cn m n F fo g) := by
  obtain ⟨⟨fd, ps, hb, hl, ok⟩, kp⟩ := G
  exact (pe_methS (E := WE E) ho hc hm ok hr hb (fun σ => passAt tk σ) ha hst hpl ht).imp fun σ H Q h => meth_read id (fun c r q => sp_shared c r q) h
theorem q_methP {pl : Sem Bool} (G : FnX X f k n F) (hr : Room k X.A) (hc : Cls X.K (He.ga X.K cn)) (hm : Meth X.K (He.ga X.K cn) m f) (tk : Takes X E) (ho : QE X E o fo) (ha : QA X E (e :: es) g)
    (hst : starEach (e :: es) X.env = (false, eval e X.env) :: starEach es X.env := by rfl) (hpl : (backTo pos (starEach es X.env)).any (·.1) = false := by rfl)
    (ht : eval (.Call (.Attribute o m apos) (e :: es) [] pos) X.env = (do let ov ← eval o X.env; standAt apos.atName; let (f, first) ← holding [ov] (getMethod ov m pl); callWith pos f first (backTo pos (starEach (e :: es) X.env)) (backToKw pos (keywordEach [] X.env))) := by rfl) :
    QE X E (.Call (.Attribute o m apos) (e :: es) [] pos) (eMethP cn m n F fo g) := by
  obtain ⟨⟨fd, ps, hb, hl, ok⟩, kp⟩ := G
  exact (pe_methS (E := WE E) ho hc hm ok hr hb (fun σ => passAt tk σ) ha hst hpl ht).locks.imp fun σ H Q h => meth_read (fun Q v => Lk (Q v)) (fun c r q => sp_pure c r q) h
theorem meth0_read {G : List R → M R} (T : VK → VK) (hG : ∀ {Z : Addr → Prop} {μ : List Addr} {H : Hp} {σ : L2.St} {st : Sto} {rs : List R} {vs : List V} {Q : VK}, Cells X.K X.w Z μ st H → RRs X.K X.w (Fb Z μ) μ H rs vs → Sat X.K X.w E Z μ H σ ((if rs.length = n then G rs else fail) st) (fun r _ μ' H' => ∀ v, RR X.K X.w (Fb Z μ') μ' H' r v → Q v H') → spF X.K X.w n F vs H (T Q) (WE E σ))
    {σ : L2.St} {H : Hp} {Q : VK} (h : rd X.K X.w E (fun ρ => bnd (fo ρ) fun o st => if isIns cn m st o then bnd (aNil ρ) (fun rs => if (o :: rs).length = n then G (o :: rs) else fail) st else .bad) σ H Q) :
    rd X.K X.w E fo σ H fun x H1 => ∃ a dx fs, x = .ref a ∧ H1 a = some (.ins (He.ga X.K cn) dx fs) ∧ fs.lookup m = none ∧ spF X.K X.w n F [x] H1 (T Q) (WE E σ) := by
  obtain ⟨Z, μ, st, ρ, c, s, q⟩ := h
  refine rd_step (f := fo) c s q fun r1 st1 μ1 H1 v1 n1 c1 s1 rv1 q1 => ?_
  by_cases hi : isIns cn m st1 r1 = true
  · simp only [hi, if_true] at q1
    obtain ⟨a, dx, us, rfl, h1, h2⟩ := rv1.isIns c1 hi
    exact ⟨a, dx, us, rfl, h1, h2, hG c1 (.cons rv1 .nil) q1⟩
  · simp only [hi] at q1
    exact False.elim q1
theorem q_meth0 {pl : Sem Bool} (G : FnX X f k n F) (hr : Room k X.A) (hc : Cls X.K (He.ga X.K cn)) (hm : Meth X.K (He.ga X.K cn) m f) (tk : Takes X E) (ho : QE X E o fo)
    (ht : eval (.Call (.Attribute o m apos) [] [] pos) X.env = (do let ov ← eval o X.env; standAt apos.atName; let (f, first) ← holding [ov] (getMethod ov m pl); callWith pos f first (backTo pos (starEach [] X.env)) (backToKw pos (keywordEach [] X.env))) := by rfl) :
    QE X E (.Call (.Attribute o m apos) [] [] pos) (eMeth cn m n F fo aNil) := by
  obtain ⟨⟨fd, ps, hb, hl, ok⟩, kp⟩ := G
  exact (pe_meth0S (E := WE E) ho hc hm ok hr hb (fun σ => passAt tk σ) ht).imp fun σ H Q h => meth0_read id (fun c r q => sp_shared c r q) h
theorem q_methP0 {pl : Sem Bool} (G : FnX X f k n F) (hr : Room k X.A) (hc : Cls X.K (He.ga X.K cn)) (hm : Meth X.K (He.ga X.K cn) m f) (tk : Takes X E) (ho : QE X E o fo)
    (ht : eval (.Call (.Attribute o m apos) [] [] pos) X.env = (do let ov ← eval o X.env; standAt apos.atName; let (f, first) ← holding [ov] (getMethod ov m pl); callWith pos f first (backTo pos (starEach [] X.env)) (backToKw pos (keywordEach [] X.env))) := by rfl) :
    QE X E (.Call (.Attribute o m apos) [] [] pos) (eMethP cn m n F fo aNil) := by
  obtain ⟨⟨fd, ps, hb, hl, ok⟩, kp⟩ := G
  exact (pe_meth0S (E := WE E) ho hc hm ok hr hb (fun σ => passAt tk σ) ht).locks.imp fun σ H Q h => meth0_read (fun Q v => Lk (Q v)) (fun c r q => sp_pure c r q) h
end

/-! ### C(..) -/
/-- in the store at hand: a new cell -/
def mkC (cn : Str) (F : List R → M R) (rs : List R) : M R := fun st => match F (.loc st.length :: rs) (st ++ [.ins cn []]) with
  | .ok (.w .non) st' => .ok (.loc st.length) st'
  | .ok _ _ => .bad
  | .exc x st' => .exc x st'
  | .bad => .bad
/-- with a store of its own: the new instance stands by value -/
def mkP (cn : Str) (F : List R → M R) (rs : List R) : M R := callP (mkC cn F) rs
def eMk (n : Nat) (G : List R → M R) (g : Env → M (List R)) : Env → M R := fun ρ => bnd (g ρ) fun rs => if rs.length + 1 = n then G rs else fail
section
variable {X : Cx} {E : WX} {K : PySem.W.Frag} {w : World} {Z : Addr → Prop} {μ : List Addr} {H : Hp} {st : Sto} {x : Str} {f : Addr} {k n : Nat} {F : List R → M R} {g : Env → M (List R)} {e : Expr} {es : List Expr} {p pos apos : Pos} {cn : Str}
theorem sp_mkC {σ : L2.St} {rs : List R} {vs : List V} {Q : VK} {E0 : XK} (hn : rs.length + 1 = n) (c : Cells K w Z μ st H) (r : RRs K w (Fb Z μ) μ H rs vs)
    (h : Sat K w (fun cls d _ H' => E0 cls d H') Z μ H σ (mkC cn F rs st) fun r _ μ' H' => ∀ v, RR K w (Fb Z μ') μ' H' r v → Q v H') : SpMk (He.ga K cn) (spF K w n F) E0 vs H Q := by
  intro p dx hp hd hne
  have n1 : Nx μ H μ (upd H dx (.own p)) := Nx.new hd
  have c1 : Cells K w Z μ st (upd H dx (.own p)) := c.new hd
  have hp1 : upd H dx (.own p) p = none := by rw [upd_ne (Ne.symm hne)]; exact hp
  have n2 : Nx μ (upd H dx (.own p)) (μ ++ [p]) (upd (upd H dx (.own p)) p (.ins (He.ga K cn) dx [])) := Nx.newCell c1 hp1
  have c2 := c1.newCell (o := .ins (He.ga K cn) dx []) (ce := .ins cn []) hp1 (.ins upd_same .nil)
  refine ⟨by simp [← r.length, ← hn], Z, μ ++ [p], st ++ [.ins cn []], .loc st.length :: rs, c2, .cons (.loc (RR.newLoc c)) (r.nx (n1.trans n2)), ?_⟩
  unfold mkC at h
  cases ef : F (.loc st.length :: rs) (st ++ [.ins cn []]) with
  | bad => rw [ef] at h; exact h
  | exc y st' =>
    rw [ef] at h
    exact fun μ' H' cls d nx cc rx => h μ' H' cls d ((n1.trans n2).trans nx) cc rx
  | ok a st' =>
    rw [ef] at h
    intro μ' H' nx cc v rv
    split at h
    · rename_i _ st1 hh
      cases hh
      refine ⟨rv.non, h μ' H' ((n1.trans n2).trans nx) cc _ (.loc (nx.at (RR.newLoc c)))⟩
    · exact False.elim h
    · rename_i hh; cases hh
    · rename_i hh; cases hh
theorem mk_read {σ : L2.St} {rs : List R} {vs : List V} {Q : VK} (c : Cells X.K X.w Z μ st H) (r : RRs X.K X.w (Fb Z μ) μ H rs vs)
    (h : Sat X.K X.w E Z μ H σ ((if rs.length + 1 = n then mkC cn F rs else fail) st) fun r _ μ' H' => ∀ v, RR X.K X.w (Fb Z μ') μ' H' r v → Q v H') : SpMk (He.ga X.K cn) (spF X.K X.w n F) (WE E σ) vs H Q := by
  obtain ⟨hl, h⟩ := h.ite
  refine sp_mkC (σ := []) hl c r ?_
  cases ef : mkC cn F rs st with
  | bad => rw [ef] at h; exact h
  | ok a st' => rw [ef] at h; exact h
  | exc y st' => rw [ef] at h; exact h
theorem mkP_read {σ : L2.St} {rs : List R} {vs : List V} {Q : VK} (c : Cells X.K X.w Z μ st H) (r : RRs X.K X.w (Fb Z μ) μ H rs vs)
    (h : Sat X.K X.w E Z μ H σ ((if rs.length + 1 = n then mkP cn F rs else fail) st) fun r _ μ' H' => ∀ v, RR X.K X.w (Fb Z μ') μ' H' r v → Q v H') : SpMk (He.ga X.K cn) (spF X.K X.w n F) (WE E σ) vs H (fun v => Lk (Q v)) := by
  obtain ⟨hl, h⟩ := h.ite
  obtain ⟨Z', μ', st', c', r', q⟩ := callP_sat (E0 := WE E σ) (fun _ _ _ h => h) c r h fun _ _ _ _ h => h
  exact sp_mkC (σ := []) hl c' r' q
variable {C : Addr}
theorem q_mk (hC : C = He.ga X.K cn) (G : FnX X f k n F) (M : Mk X.K C f) (hr : Room (k + 1) X.A) (hg : Gl X x) (hm : X.mg x = some (.ref C)) (tk : Takes X E) (ha : QA X E (e :: es) g)
    (hdb : (x == ("__debug__" : Str)) = false := by decide) (he : starEach (e :: es) X.env = (false, eval e X.env) :: starEach es X.env := by rfl) (hpl : (backTo pos (starEach es X.env)).any (·.1) = false := by rfl) :
    QE X E (.Call (.Name x p) (e :: es) [] pos) (eMk n (mkC cn F) g) := by
  subst hC
  obtain ⟨⟨fd, ps, hb, hl, ok⟩, kp⟩ := G
  refine (pe_makeS (E := WE E) M ok hr hg hm hb (fun σ => passAt tk σ) ha hdb he hpl).imp fun σ H Q h => ?_
  obtain ⟨Z, μ, st, ρ, c, s, q⟩ := h
  exact rdA_step (f := g) c s q fun rs st1 μ1 H1 vs n1 c1 s1 rv1 q1 => mk_read c1 rv1 q1
theorem q_mkP (hC : C = He.ga X.K cn) (G : FnX X f k n F) (M : Mk X.K C f) (hr : Room (k + 1) X.A) (hg : Gl X x) (hm : X.mg x = some (.ref C)) (tk : Takes X E) (ha : QA X E (e :: es) g)
    (hdb : (x == ("__debug__" : Str)) = false := by decide) (he : starEach (e :: es) X.env = (false, eval e X.env) :: starEach es X.env := by rfl) (hpl : (backTo pos (starEach es X.env)).any (·.1) = false := by rfl) :
    QE X E (.Call (.Name x p) (e :: es) [] pos) (eMk n (mkP cn F) g) := by
  subst hC
  obtain ⟨⟨fd, ps, hb, hl, ok⟩, kp⟩ := G
  refine (pe_makeS (E := WE E) M ok hr hg hm hb (fun σ => passAt tk σ) ha hdb he hpl).locks.imp fun σ H Q h => ?_
  obtain ⟨Z, μ, st, ρ, c, s, q⟩ := h
  exact rdA_step (f := g) c s q fun rs st1 μ1 H1 vs n1 c1 s1 rv1 q1 => mkP_read c1 rv1 q1
end

/-! ### o.f, a property: its getter raises nothing -/
def eProp (cn : Str) (n : Nat) (F : List R → M R) (fo : Env → M R) : Env → M R := fun ρ => bnd (fo ρ) fun o st => if isIns cn "" st o then nox (if 1 = n then callP F [o] else fail) st else .bad
section
variable {X : Cx} {E : WX} {k n : Nat} {F : List R → M R} {o : Expr} {fo : Env → M R} {cn f : Str} {p g : Addr} {pos : Pos}
theorem passes_no {P : Program} {w : World} {Y : Cx} : Passes (L2.CX P w) Y (fun _ _ _ => False) := fun _ _ _ _ _ _ _ c => by
  obtain ⟨_, _, _, _, _, _, _, _, _, _, _, _, z⟩ := c
  exact z.elim
theorem q_prop (G : FnX X g k n F) (hr : Room (k + 1) X.A) (hc : Cls X.K (He.ga X.K cn)) (hp : PropOf X.K (He.ga X.K cn) f p g) (ho : QE X E o fo) (hab : attributeBase o f X.env (eval o X.env) = eval o X.env := by rfl) : QE X E (.Attribute o f pos) (eProp cn n F fo) := by
  obtain ⟨⟨fd, ps, hb, hl, ok⟩, kp⟩ := G
  refine (pe_prop (dvs := []) ho hc hp ok hr hb .nil passes_no hab).locks.imp fun σ H Q h => ?_
  obtain ⟨Z, μ, st, ρ, c, s, q⟩ := h
  refine rd_step (f := fo) c s q fun r1 st1 μ1 H1 v1 n1 c1 s1 rv1 q1 => ?_
  by_cases hi : isIns cn "" st1 r1 = true
  · simp only [hi, if_true] at q1
    obtain ⟨a, dx, us, rfl, h1, h2⟩ := rv1.isIns c1 hi
    exact ⟨a, dx, us, rfl, h1, sp_pure (E := WX0) (rs := [r1]) (σ := σ) c1 (.cons rv1 .nil) (Sat.nox q1)⟩
  · simp only [hi] at q1
    exact False.elim q1
end
end Iv
end
section
set_option Elab.async false
set_option linter.all false
set_option maxRecDepth 100000
set_option maxHeartbeats 4000000
/-! Iv.R13: what is walked, texts. -/
namespace Iv
open PySem PySem.Spec PyProof.Rows L2

/-! ### enumerate over a tuple -/
/-- enumerate's maker upon anything that begins an iterator -/
theorem enumMakes {v : Value} {o : Obj} {Is : Heap → Prop} (B : Begins v o Is) : Meets (Builtin.«enumerate.__new__» ⟨[.type "enumerate", v], []⟩) (fun _ R s => Is s.heap ∧ R (.ok (.ret (.ref (s.heap.push o).objs.size))) { s with heap := (s.heap.push o).push { cls := .type "enumerate", data := .fields #[.none, .bool false, .ref s.heap.objs.size, rawInt 0, .none, .none] } }) :=
  Meets.of_wp fun prog w A R ⟨h0, gs, dr, tk, os⟩ ⟨is, fin⟩ => by
    have sub := sub_enumerate
    have begin_ : ∀ {A' : Around} {E : Value → Shared → Prop} {Q : Value → Shared → Prop}, Q (.ref h0.objs.size) ⟨h0.push o, gs, dr, tk, os⟩ → wpAny (model prog w) A' (pyIter v) Q E ⟨h0, gs, dr, tk, os⟩ := fun q => B.iter prog w _ _ ⟨h0, gs, dr, tk, os⟩ _ is q
    wp_walk
    refine wpAny_stack_any fun frames => wpAny_pure ?_
    -- whether type's own call stands above or not, the same is done
    split
    case h_2 => wp_walk using begin_; exact ⟨_, rfl, fin⟩
    case h_1 top _ _ _ _ _ => cases (top == Value.type "enumerate") <;> (wp_walk using begin_; exact ⟨_, rfl, fin⟩)
/-- enumerate(t): its two new objects -/
theorem enum_tuple {prog : Program} {w : World} {A : Around} {E : Value → Shared → Prop} {s : Shared} {t : Addr} {items : Array Value} {Q : Value → Shared → Prop} (ht : s.heap.IsTuple t items)
    (fin : ∀ h', IsEnum h' (s.heap.objs.size + 1) s.heap.objs.size 0 .none → h'.IsTupleIter s.heap.objs.size t 0 → (∀ b o, s.heap.get? b = some o → h'.get? b = some o) → Q (.ref (s.heap.objs.size + 1)) { s with heap := h' }) :
    wpAny (model prog w) A (call (.type "enumerate") [.ref t]) Q E s := by
  let inner : Obj := { cls := .type "tuple_iterator", data := .fields #[.ref t, .int 0 0] }
  let outer : Obj := { cls := .type "enumerate", data := .fields #[.none, .bool false, .ref s.heap.objs.size, rawInt 0, .none, .none] }
  have grown : (s.heap.push inner).objs.size = s.heap.objs.size + 1 := Heap.size_push s.heap inner
  have isEnum : IsEnum ((s.heap.push inner).push outer) (s.heap.objs.size + 1) s.heap.objs.size 0 .none := grown ▸ Heap.get?_push_size (s.heap.push inner) (o := outer) rfl
  have q := fin ((s.heap.push inner).push outer) isEnum ⟨inner, Heap.get?_push_of_some outer (Heap.get?_push_size _ rfl), rfl, rfl⟩ fun _ _ z => Heap.get?_push_of_some outer (Heap.get?_push_of_some inner z)
  refine callType_new F.called_enumerate (by decide) (F.typeCall_enumerate_1 _) (F.newCall_enumerate_1 _) (fun obj => F.args_object_init_2 obj _) F.entry_enumerate_new (enumMakes (begins_tuple t items)) ⟨ht, ?_⟩
  show _ ∧ _
  rw [grown]
  exact ⟨⟨_, isEnum, rfl⟩, q⟩
/-- the tuple at a, of n items, each in a new pair -/
def IteT (K : PySem.W.Frag) (a : Addr) (n : Nat) : It where
  go := fun i H => ∃ (xs : List V) (x : V), SqT K H a xs ∧ xs.length = n ∧ xs[i]? = some x
  yld := fun i H v H' => ∃ T x, v = .ref T ∧ H T = none ∧ H' = upd H T (.tup [.int (i : Nat), x]) ∧ ∀ xs, SqT K H a xs → xs[i]? = some x
  stop := fun i H => ∃ xs : List V, SqT K H a xs ∧ xs.length = n ∧ n ≤ i
/-- how far the walk is: the counter and the tuple's iterator go abreast -/
def EnumAt (e it a : Addr) (n i : Nat) (h : Heap) : Prop := (∃ old, IsEnum h e it ((i : Nat) : Int) old) ∧ h.IsTupleIter it a i ∧ i ≤ n
section
variable {X : Cx} {pins : List (Addr × Obj)} {s : Shared} {σ : L2.St} {H : Hp} {E : Value → Shared → Prop} {a e it : Addr} {n i : Nat}
theorem EnumAt.below {h : Heap} (z : EnumAt e it a n i h) : ∀ b ∈ [e, it], b < h.objs.size := by
  obtain ⟨⟨_, ez⟩, ⟨_, iz, _⟩, _⟩ := z
  simp only [List.mem_cons, List.not_mem_nil, or_false, forall_eq_or_imp, forall_eq]
  exact ⟨Heap.lt_size ez, Heap.lt_size iz⟩
/-- a turn -/
theorem enumT_next {elts : List Expr} {kk : Nat} {tpos : Pos} (calm : X.calm = true) (I : Inv X pins σ H s) (own : ∀ b ∈ [e, it], FpOk X pins H b) (ne : e ≠ it) (nea : e ≠ a) (nai : a ≠ it) (z : EnumAt e it a n i s.heap) (g : (IteT X.K a n).go i H) :
    wpAny (model X.prog X.w) X.A (pyNext (.ref e)) (fun r s1 => ∃ u, r = some u ∧ wpAny (model X.prog X.w) X.A (letOwnedTupleGo (.Tuple elts kk tpos) (.ref e) u) (fun _ s2 => ∃ x H', Inv X pins σ H' s2 ∧ RelV x u ∧ (IteT X.K a n).yld i H x H' ∧ EnumAt e it a n (i + 1) s2.heap ∧ ∀ b ∈ [e, it], H' b = none) E s1) E s := by
  have low := z.below
  obtain ⟨⟨old, cnt⟩, inner, _⟩ := z
  obtain ⟨xs, x, sq, ln, at_⟩ := g
  obtain ⟨vals, rel, tup, _⟩ := I.tuple sq
  obtain ⟨val, atv, rv⟩ := rel.get at_
  let T := s.heap.objs.size
  have lt : i < vals.toArray.size := by simpa using (List.getElem?_eq_some_iff.mp atv).1
  refine wpAny_pyNext_enum_itemD (Draws.tuple (A := X.A.in1) (I.ok.hd calm) it a nai vals.toArray) cnt ⟨inner, tup⟩ lt ne (by simp [ne, nea]) ?_
  intro y h1 tk isY out more pair _ kept
  obtain rfl : val = y := Option.some.inj (atv.symm.trans (by simpa using isY))
  refine ⟨.ref T, rfl, wpAny_letOwnedTupleGo_enum (s := { s with heap := h1, toks := tk + 1 }) out ?_⟩
  intro h2 cnt2 same
  -- all but the two objects of the walk is as it was
  have rest : ∀ b o, b ∉ [e, it] → s.heap.get? b = some o → h2.get? b = some o := fun b o nb z => by
    simp only [List.mem_cons, List.not_mem_nil, or_false, not_or] at nb
    exact (same.2 b nb.1).trans (kept b o nb.1 nb.2 z)
  have at2 : h2.get? T = some { cls := .type "tuple", data := .seq #[.int i tk, val] } := (same.2 T (Nat.ne_of_gt (low e (by simp)))).trans pair
  have J : Inv X pins σ (upd H T (.tup [.int (i : Nat), x])) { s with heap := h2, toks := tk + 1 } :=
    I.turnedNew rest own (Nat.le_refl _) ⟨(by decide : 2 ≤ sizeLine), [.int i tk, val], .cons ⟨tk, rfl⟩ (.cons rv .nil), _, at2, rfl, 0, rfl⟩
  refine ⟨.ref T, _, J, rfl, ⟨T, x, rfl, I.hok.fresh (Nat.le_refl _), rfl, fun ys sy => I.tuple_inj sy sq ▸ at_⟩, ⟨⟨val, ?_⟩, more.1.at fun o z => (same.2 it (Ne.symm ne)).trans z, ?_⟩, fun b hb => ?_⟩
  · exact (Int.natCast_succ i).symm ▸ cnt2
  · have := (List.getElem?_eq_some_iff.mp at_).1; omega
  · exact (upd_ne (Nat.ne_of_lt (low b hb))).trans (own b hb).1
/-- the end -/
theorem enumT_end (calm : X.calm = true) (I : Inv X pins σ H s) (own : ∀ b ∈ [e, it], FpOk X pins H b) (nai : a ≠ it) (z : EnumAt e it a n i s.heap) (g : (IteT X.K a n).stop i H) :
    wpAny (model X.prog X.w) X.A (pyNext (.ref e)) (fun r s1 => r = none ∧ Inv X pins σ H s1) E s := by
  obtain ⟨⟨old, cnt⟩, inner, le⟩ := z
  obtain ⟨xs, sq, ln, ge⟩ := g
  obtain ⟨vals, rel, tup, _⟩ := I.tuple sq
  obtain rfl : i = vals.toArray.size := by simp [← rel.length]; omega
  obtain ⟨o0, o1, _, o3, o4, o5⟩ := own it (by simp)
  exact wpAny_pyNext_enum_endD (Draws.tuple (A := X.A.in1) (I.ok.hd calm) it a nai vals.toArray) cnt ⟨inner, tup⟩ fun h1 ext => ⟨rfl, I.turned (t' := s.toks) ext o0 o1 o3 o4 o5⟩
end
theorem turn_enumT {P : Program} {w : World} {K : PySem.W.Frag} {elts : List Expr} {kk : Nat} {tpos : Pos} (a e it : Addr) (n : Nat) (ne : e ≠ it) (nea : e ≠ a) (nai : a ≠ it) : Turn P w K (.Tuple elts kk tpos) (IteT K a n) [e, it] e (EnumAt e it a n) where
  mem := List.mem_cons_self
  obj := fun i h z => by
    obtain ⟨⟨_, cz⟩, ⟨o, oz, _, dz⟩, _⟩ := z
    simp only [List.mem_cons, List.not_mem_nil, or_false, forall_eq_or_imp, forall_eq]
    exact ⟨⟨_, cz, fun _ => nofun⟩, o, oz, fun _ q => by rw [dz] at q; cases q⟩
  keep := fun i h h' ⟨⟨old, cz⟩, iz, le⟩ same => ⟨⟨old, same e List.mem_cons_self _ cz⟩, iz.at (same it (by simp)), le⟩
  item := fun X p q r calm i pins s σ H E I own z g => by subst p q r; exact enumT_next calm I own ne nea nai z g
  done := fun X p q r calm i pins s σ H E I own z g => by subst p q r; exact enumT_end calm I own nai z g
  self := fun A i s Q E z q => wpAny_pyIter_enum z.1.choose_spec q
def iEnumT (K : PySem.W.Frag) (ta : TA) : TI := fun σ H R => ta σ H fun vs H1 => ∃ a xs, vs = [.ref a] ∧ SqT K H1 a xs ∧ R (IteT K a xs.length) H1
theorem pi_enumT {X : Cx} {arg : Expr} {ta : TA} {p pos tpos : Pos} {elts : List Expr} {kk : Nat} (gl : Gl X "enumerate") (no : X.mg "enumerate" = none) (ha : PA X [arg] ta) (plain : starEach [arg] X.env = [(false, eval arg X.env)] := by rfl) : PI X (.Tuple elts kk tpos) (.Call (.Name "enumerate" p) [arg] [] pos) (iEnumT X.K ta) where
  run := fun pins s σ H R I h => Call_ (ld_blt I gl no boot_enumerate (PyProof.Rows.callWith_type1 (thn (ha.run pos pins s σ H _ I h) (by
    rintro us s1 ⟨vs, H1, J, rel, a, xs, rfl, sq, q⟩
    obtain ⟨u, rfl, ru⟩ := vals1 rel
    cases ru
    obtain ⟨vals, _, tup, _⟩ := J.tuple sq
    have old : a < s1.heap.objs.size := let ⟨_, z, _⟩ := tup; Heap.lt_size z
    refine enum_tuple tup fun h1 cnt inner kept => wpAny_pyIter_enum cnt ?_
    let m := s1.heap.objs.size
    refine ⟨m + 1, [m + 1, m], EnumAt (m + 1) m a xs.length, IteT X.K a xs.length, H1, rfl, J.kept (t' := s1.toks) kept, turn_enumT a (m + 1) m xs.length (Nat.succ_ne_self m) (Nat.ne_of_gt (Nat.lt_succ_of_lt old)) (Nat.ne_of_lt old), ⟨⟨.none, cnt⟩, inner, Nat.zero_le _⟩, ?_, q⟩
    have new : ∀ b, m ≤ b → FpOk X pins H1 b := fun b le => J.fpOk le (J.hok.fresh le)
    simp only [List.mem_cons, List.not_mem_nil, or_false, forall_eq_or_imp, forall_eq]
    exact ⟨new _ (Nat.le_succ m), new _ (Nat.le_refl m)⟩)) plain rfl))

/-! ### walks -/
theorem _root_.L2.PI.or {X : Cx} {tg e : Expr} {t t' : TI} (h : PI X tg e t) (h' : PI X tg e t') : PI X tg e (fun σ H R => t σ H R ∨ t' σ H R) := ⟨fun pins s σ H R I q => by
  rcases q with q | q
  · exact h.run pins s σ H R I q
  · exact h'.run pins s σ H R I q⟩
def pairW (x y : W) : W := .tup [x, y]
/-- list, tuple, text, dict (its keys): what the value is tells -/
def itA (f : Env → M R) : Env → M Iter := fun ρ => bnd (f ρ) fun r st => match r with
  | .w (.tup xs) => .ok ⟨fun i _ => some xs[i]?, xs.length⟩ st
  | .w (.str z) => .ok ⟨fun i _ => some (z.cps[i]?.map fun c => .str ⟨#[c]⟩), z.cps.size⟩ st
  | .w (.dic false kvs) => .ok ⟨fun i _ => some (kvs[i]?.map (·.1)), kvs.length⟩ st
  | r => match listOf st r with
    | some xs => .ok ⟨fun i st => (listOf st r).map fun ys => ys[i]?, xs.length⟩ st
    | none => .bad
/-- enumerate(..) -/
def itE (f : Env → M R) : Env → M Iter := fun ρ => bnd (f ρ) fun r st => match r with
  | .w (.tup xs) => .ok ⟨fun i _ => some (xs[i]?.map fun x => pairW (.int (i : Nat)) x), xs.length⟩ st
  | r => match listOf st r with
    | some xs => .ok ⟨fun i st => (listOf st r).map fun ys => ys[i]?.map fun x => pairW (.int (i : Nat)) x, xs.length⟩ st
    | none => .bad
/-- d.items(), d by value -/
def itI (f : Env → M R) : Env → M Iter := fun ρ => bnd (f ρ) fun r => match r with
  | .w (.dic false kvs) => ret ⟨fun i _ => some (kvs[i]?.map fun p => pairW p.1 p.2), kvs.length⟩
  | _ => fail
/-- zip(a, b), lists by value -/
def itZ (f g : Env → M R) : Env → M Iter := fun ρ => bnd (f ρ) fun r => bnd (g ρ) fun r' => match r, r' with
  | .w (.lst xs), .w (.lst ys) => ret ⟨fun i _ => some (match xs[i]?, ys[i]? with | some x, some y => some (pairW x y) | _, _ => none), min xs.length ys.length⟩
  | _, _ => fail
section
variable {X : Cx} {E : WX} {tg : Expr} {K : PySem.W.Frag} {w : World} {F : Addr → Prop} {Z : Addr → Prop} {μ : List Addr} {H : Hp} {st : Sto}
theorem RKs.getK : ∀ {kvs : List (W × W)} {kus : List (Key × V)} {i : Nat} {p : W × W}, RKs K w F H kvs kus → kvs[i]? = some p → ∃ k v, kus[i]? = some (k, v) ∧ p.1 = wK k ∧ RV K w F H p.2 v
  | _, _, _, _, .nil, e => by simp at e
  | _, _, 0, _, .str (x := x) a _, e => by simp at e; subst e; exact ⟨.inr x, _, rfl, rfl, a⟩
  | _, _, 0, _, .int (i := x) a _, e => by simp at e; subst e; exact ⟨.inl x, _, rfl, rfl, a⟩
  | _, _, i + 1, p, .str _ b, e => by
    obtain ⟨k, v, h1, h2, h3⟩ := RKs.getK (i := i) (p := p) b (by simpa using e)
    exact ⟨k, v, by simpa using h1, h2, h3⟩
  | _, _, i + 1, p, .int _ b, e => by
    obtain ⟨k, v, h1, h2, h3⟩ := RKs.getK (i := i) (p := p) b (by simpa using e)
    exact ⟨k, v, by simpa using h1, h2, h3⟩
theorem RV.key {k : Key} : RV K w F H (wK k) (kV k) := by
  cases k with
  | inl i => exact .int i
  | inr x => exact .str x
theorem rdI_of {fi gi : Env → M Iter} {σ : L2.St} {H : Hp} {R : It → Hp → Prop} (h : ∃ Z μ st ρ, Cells K w Z μ st H ∧ RS K w (Fb Z μ) μ H ρ σ ∧ gi ρ st = fi ρ st ∧ Sat K w E Z μ H σ (fi ρ st) fun it _ μ' H' => ∀ J, IterOk K w J it Z μ' H' → R J H') : rdI K w E gi σ H R := by
  obtain ⟨Z, μ, st, ρ, c, s, e, q⟩ := h
  exact ⟨Z, μ, st, ρ, c, s, by rw [e]; exact q⟩
/-- the keys of a dict by value -/
def itK (f : Env → M R) : Env → M Iter := fun ρ => bnd (f ρ) fun r => match r with
  | .w (.dic false kvs) => ret ⟨fun i _ => some (kvs[i]?.map (·.1)), kvs.length⟩
  | _ => fail
theorem RV.dicS {kvs : List (W × W)} {v : V} (h : RV K w F H (.dic false kvs) v) : ∃ a o kus, v = .ref a ∧ H a = some (.frz o (.dK kus)) ∧ ¬ F a ∧ RKs K w F H kvs kus := by
  cases h with
  | dicK e n r => exact ⟨_, _, _, rfl, e, n, r⟩
theorem q_itk {l : Expr} {f : Env → M R} (h : QE X E l f) : QI X E tg l (itK f) := (pi_keys h).imp fun σ H R hh => by
  obtain ⟨Z, μ, st, ρ, c, s, q⟩ := hh
  refine rd_step (f := f) c s q fun r1 st1 μ1 H1 v1 n1 c1 s1 rv1 q1 => ?_
  split at q1
  · rename_i kvs
    have rv0 : RV X.K X.w (Fb Z μ1) H1 (.dic false kvs) v1 := by
      cases rv1 with
      | w h => exact h
    obtain ⟨a, o, kus, rfl, e1, nf, rk⟩ := rv0.dicS
    refine ⟨a, o, rfl, .inl ⟨kus, e1, q1.ok c1 _ fun i Z' μ' H' st' hz h4 h5 h6 c' => ?_⟩⟩
    have e1' : H' a = some (.frz o (.dK kus)) := h6 a _ e1 (fun q => nf (.inl q)) fun q => nf (.inr q)
    have rk' := rk.mono (kp_of h4 h6)
    refine ⟨fun e => ⟨e1', ?_⟩, fun x e => ?_⟩
    · have := Option.map_eq_none_iff.mp (Option.some.inj e)
      rw [← rk'.length]; exact List.getElem?_eq_none_iff.mp this
    · obtain ⟨p, ep, rfl⟩ := Option.map_eq_some_iff.mp (Option.some.inj e)
      obtain ⟨k, v, e2, e3, rv⟩ := rk'.getK ep
      refine ⟨⟨e1', (List.getElem?_eq_some_iff.mp e2).1⟩, fun v' H'' y => ?_⟩
      obtain ⟨rfl, k', v'', e4, rfl⟩ := y
      rw [e2] at e4; cases e4
      exact ⟨Nx.refl _ _, c', by rw [e3]; exact RV.key⟩
  · exact False.elim q1
theorem q_ita {l : Expr} {f : Env → M R} (h : QE X E l f) : QI X E tg l (itA f) := (PI.or (PI.or (q_itl (tg := tg) h) (q_itt h)) (PI.or (q_its h) (q_itk h))).imp fun σ H R hh => by
  obtain ⟨Z, μ, st, ρ, c, s, q⟩ := hh
  unfold itA Iv.bnd at q
  cases e : f ρ st with
  | bad => rw [e] at q; exact False.elim q
  | exc x st1 =>
    refine .inl (.inl (rdI_of (fi := itA f) ⟨Z, μ, st, ρ, c, s, ?_, by unfold itA Iv.bnd; exact q⟩))
    unfold itL itA Iv.bnd; rw [e]
  | ok r st1 =>
    rw [e] at q
    simp only at q
    split at q
    · refine .inl (.inr (rdI_of (fi := itA f) ⟨Z, μ, st, ρ, c, s, ?_, by unfold itA Iv.bnd; rw [e]; exact q⟩))
      unfold itT itA Iv.bnd; rw [e]; rfl
    · refine .inr (.inl (rdI_of (fi := itA f) ⟨Z, μ, st, ρ, c, s, ?_, by unfold itA Iv.bnd; rw [e]; exact q⟩))
      unfold itS itA Iv.bnd; rw [e]; rfl
    · refine .inr (.inr (rdI_of (fi := itA f) ⟨Z, μ, st, ρ, c, s, ?_, by unfold itA Iv.bnd; rw [e]; exact q⟩))
      unfold itK itA Iv.bnd; rw [e]; rfl
    · refine .inl (.inl ⟨Z, μ, st, ρ, c, s, ?_⟩)
      unfold itL Iv.bnd; rw [e]; exact q
theorem q_iti {l : Expr} {f : Env → M R} {elts : List Expr} {kk : Nat} {tpos apos cpos : Pos} (h : QE X E l f) (hbase : attributeBase l "items" X.env (eval l X.env) = eval l X.env := by rfl) (hline : (apos.endLine == cpos.line) = true := by rfl) :
    QI X E (.Tuple elts kk tpos) (.Call (.Attribute l "items" apos) [] [] cpos) (itI f) := (pi_items h hbase hline).imp fun σ H R hh => by
  obtain ⟨Z, μ, st, ρ, c, s, q⟩ := hh
  refine rd_step (f := f) c s q fun r1 st1 μ1 H1 v1 n1 c1 s1 rv1 q1 => ?_
  split at q1
  · rename_i kvs
    have rv0 : RV X.K X.w (Fb Z μ1) H1 (.dic false kvs) v1 := by
      cases rv1 with
      | w h => exact h
    obtain ⟨a, o, kus, rfl, e1, nf, rk⟩ := rv0.dicS
    refine ⟨a, o, kus, rfl, e1, q1.ok c1 _ fun i Z' μ' H' st' hz h4 h5 h6 c' => ?_⟩
    have e1' : H' a = some (.frz o (.dK kus)) := h6 a _ e1 (fun q => nf (.inl q)) fun q => nf (.inr q)
    have rk' := rk.mono (kp_of h4 h6)
    refine ⟨fun e => ⟨e1', ?_⟩, fun x e => ?_⟩
    · have := Option.map_eq_none_iff.mp (Option.some.inj e)
      rw [← rk'.length]; exact List.getElem?_eq_none_iff.mp this
    · obtain ⟨p, ep, rfl⟩ := Option.map_eq_some_iff.mp (Option.some.inj e)
      obtain ⟨k, v, e2, e3, rv⟩ := rk'.getK ep
      refine ⟨⟨e1', (List.getElem?_eq_some_iff.mp e2).1⟩, fun v' H'' y => ?_⟩
      obtain ⟨T, k', v'', e4, rfl, hT, rfl⟩ := y
      rw [e2] at e4; cases e4
      have hn := RR.newTup (xs := [p.1, p.2]) (us := [kV k, v]) c' hT (.cons (by rw [e3]; exact RV.key) (.cons rv .nil))
      refine ⟨Nx.new hT, c'.new hT, ?_⟩
      cases hn with
      | w h => exact h
  · exact False.elim q1
theorem q_iteT {l : Expr} {f : Env → M R} {elts : List Expr} {kk : Nat} {tpos p pos : Pos} (hg : Gl X "enumerate") (hm : X.mg "enumerate" = none) (h : QE X E l f) (hs : starEach [l] X.env = (false, eval l X.env) :: starEach [] X.env := by rfl) :
    PI X (.Tuple elts kk tpos) (.Call (.Name "enumerate" p) [l] [] pos) (fun σ H R => (∃ Z μ st ρ, Cells X.K X.w Z μ st H ∧ RS X.K X.w (Fb Z μ) μ H ρ σ ∧ Sat X.K X.w E Z μ H σ (itE f ρ st) fun it _ μ' H' => ∀ J, IterOk X.K X.w J it Z μ' H' → R J H')) :=
  (PI.or (pi_enumT hg hm (q_acons h q_anil hs) (by rw [hs]; rfl)) (pi_enum hg hm (q_acons h q_anil hs) (by rw [hs]; rfl))).imp fun σ H R hh => by
  obtain ⟨Z, μ, st, ρ, c, s, q⟩ := hh
  unfold itE Iv.bnd at q
  cases e : f ρ st with
  | bad => rw [e] at q; exact False.elim q
  | exc x st1 =>
    rw [e] at q
    refine .inl ⟨Z, μ, st, ρ, c, s, ?_⟩
    show Sat X.K X.w E Z μ H σ (bnd (f ρ) _ st) _
    unfold Iv.bnd; rw [e]; exact q
  | ok r st1 =>
    rw [e] at q
    simp only at q
    split at q
    · rename_i xs
      refine .inl ⟨Z, μ, st, ρ, c, s, ?_⟩
      show Sat X.K X.w E Z μ H σ (bnd (f ρ) (fun x => bnd (aNil ρ) fun xs => ret (x :: xs)) st) _
      unfold Iv.bnd; rw [e]
      intro μ1 H1 nx c1 vs rv
      obtain ⟨v, rfl, h2⟩ := RRs.one rv
      have rv0 : RV X.K X.w (Fb Z μ1) H1 (.tup xs) v := by
        cases h2 with
        | w h => exact h
      obtain ⟨a, us, rfl, sq, rvs⟩ := h2.tupS
      refine ⟨a, us, rfl, sq, q μ1 H1 nx c1 _ fun i Z' μ' H' st' hz h4 h5 h6 c' => ?_⟩
      obtain ⟨b, us', eb, sq0, sq', rvs'⟩ := SqT.keep h4 h6 rv0
      cases eb
      have el : us'.length = us.length := by rw [← rvs'.length, rvs.length]
      refine ⟨fun e => ⟨us', sq', el, ?_⟩, fun x e => ?_⟩
      · have := Option.map_eq_none_iff.mp (Option.some.inj e)
        rw [← el, ← rvs'.length]; exact List.getElem?_eq_none_iff.mp this
      · obtain ⟨x0, e0, rfl⟩ := Option.map_eq_some_iff.mp (Option.some.inj e)
        obtain ⟨v, e3, rv⟩ := rvs'.get' e0
        refine ⟨⟨us', v, sq', el, e3⟩, fun v' H'' y => ?_⟩
        obtain ⟨T, x', rfl, hT, rfl, y2⟩ := y
        have e4 := y2 us' sq'
        rw [e3] at e4; cases e4
        have hn := RR.newTup (xs := [.int (i : Nat), x0]) (us := [.int (i : Nat), v]) c' hT (.cons (.int _) (.cons rv .nil))
        refine ⟨Nx.new hT, c'.new hT, ?_⟩
        cases hn with
        | w h => exact h
    · rename_i hnt
      cases el : listOf st1 r with
      | none => rw [el] at q; exact False.elim q
      | some xs =>
        rw [el] at q
        refine .inr ⟨Z, μ, st, ρ, c, s, ?_⟩
        show Sat X.K X.w E Z μ H σ (bnd (f ρ) (fun x => bnd (aNil ρ) fun xs => ret (x :: xs)) st) _
        unfold Iv.bnd; rw [e]
        intro μ1 H1 nx c1 vs rv
        obtain ⟨v, rfl, h2⟩ := RRs.one rv
        obtain ⟨a, us, rfl, h3, rvs⟩ := h2.listS c1 el
        refine ⟨a, us, rfl, .of h3, q μ1 H1 nx c1 _ fun i Z' μ' H' st' hz h4 h5 h6 c' => ?_⟩
        have rv' : RR X.K X.w (Fb Z' μ') μ' H' r (.ref a) := h2.mono (kp_of h4 h6) h5
        refine ⟨fun e => ?_, fun x e => ?_⟩
        · obtain ⟨ys, e1, e2⟩ := Option.map_eq_some_iff.mp e
          obtain ⟨b, us', eb, h7, rvs'⟩ := rv'.listS c' e1
          cases eb
          refine ⟨us', .of h7, ?_⟩
          rw [← rvs'.length]
          exact List.getElem?_eq_none_iff.mp (Option.map_eq_none_iff.mp e2)
        · obtain ⟨ys, e1, e2⟩ := Option.map_eq_some_iff.mp e
          obtain ⟨x0, e0, rfl⟩ := Option.map_eq_some_iff.mp e2
          obtain ⟨b, us', eb, h7, rvs'⟩ := rv'.listS c' e1
          cases eb
          obtain ⟨v, e3, rv⟩ := rvs'.get' e0
          refine ⟨⟨us', v, .of h7, e3⟩, fun v' H'' y => ?_⟩
          obtain ⟨T, x', rfl, hT, rfl, y2⟩ := y
          have e4 := y2 us' (.of h7)
          rw [e3] at e4; cases e4
          have hn := RR.newTup (xs := [.int (i : Nat), x0]) (us := [.int (i : Nat), v]) c' hT (.cons (.int _) (.cons rv .nil))
          refine ⟨Nx.new hT, c'.new hT, ?_⟩
          cases hn with
          | w h => exact h
theorem q_ite {l : Expr} {f : Env → M R} {elts : List Expr} {kk : Nat} {tpos p pos : Pos} (hg : Gl X "enumerate") (hm : X.mg "enumerate" = none) (h : QE X E l f) (hs : starEach [l] X.env = (false, eval l X.env) :: starEach [] X.env := by rfl) :
    QI X E (.Tuple elts kk tpos) (.Call (.Name "enumerate" p) [l] [] pos) (itE f) := q_iteT hg hm h hs
end
end Iv
end
section
set_option Elab.async false
set_option linter.all false
set_option maxRecDepth 100000
set_option maxHeartbeats 4000000
/-! Iv.R14: texts: join, split, strip, times. -/
namespace Iv
open PySem PySem.Spec PyProof.Rows L2

def strW : W → Option Str
  | .str x => some x
  | _ => none
def joinR : Mt := fun st x xs => match x, xs with
  | .w (.str a), [y] => match itemsOf st y with
    | some zs => match mapO strW zs with
      | some ys => if (ys.map (·.length)).sum + ys.length * a.length ≤ 16777216 then some (.w (.str (Str.join a ys)), st) else none
      | none => none
    | none => none
  | _, _ => none
def splitR : Mt := fun st x xs => match x, xs with
  | .w (.str a), [.w (.str b)] => if (b.length == 0) = false then (if fits (a.length + 2) then some (.w (.lst ((Txt.split a b).map W.str)), st) else none) else none
  | _, _ => none
def stripR : Mt := fun st x xs => match x, xs with
  | .w (.str a), [.w (.str b)] => if fits a.length then some (.w (.str (Txt.stripChars a b)), st) else none
  | _, _ => none
section
variable {X : Cx} {E : WX} {K : PySem.W.Frag} {w : World} {F : Addr → Prop} {Z : Addr → Prop} {μ : List Addr} {H : Hp} {st : Sto}
theorem RVs.strs : ∀ {ys : List W} {us : List V} {bs : List Str}, RVs K w F H ys us → mapO strW ys = some bs → us = bs.map V.str
  | _, _, _, .nil, e => by cases e; rfl
  | _, _, _, .cons a b, e => by
    obtain ⟨y, ys, e1, e2, rfl⟩ := mapO_cons e
    rw [RVs.strs b e2]
    cases a <;> first | cases e1 | skip
    rfl
theorem RVs.ofStrs : ∀ (ys : List Str), RVs K w F H (ys.map W.str) (ys.map V.str)
  | [] => .nil
  | y :: ys => .cons (.str y) (RVs.ofStrs ys)
theorem mq_join : MtR X "str.join" (rdM X.K X.w joinR) := by
  refine MtR.imp mt_join fun x xs H Q h => ?_
  obtain ⟨Z, μ, st, r1, rs, r, st', c, h1, h2, e, q⟩ := h
  unfold joinR at e
  split at e
  · rename_i a y
    cases ei : itemsOf st y with
    | none => rw [ei] at e; cases e
    | some zs =>
      rw [ei] at e
      simp only at e
      cases em : mapO strW zs with
      | none => rw [em] at e; cases e
      | some ys =>
        rw [em] at e
        obtain ⟨hz, e⟩ := ite_some'' e
        cases e
        obtain ⟨v, rfl, h3⟩ := h2.one
        obtain ⟨p, us, rfl, sq, rvs, _⟩ := h3.itemsS c ei
        have hu := rvs.strs em
        subst hu
        refine ⟨a, p, ys, h1.str, rfl, sq, hz, ?_⟩
        rw [TL.join_eq]
        exact q _ _ _ (Nx.refl _ _) c (.w (.str _))
  · cases e
theorem mq_split : MtR X "str.split" (rdM X.K X.w splitR) := by
  refine MtR.imp mt_split fun x xs H Q h => ?_
  obtain ⟨Z, μ, st, r1, rs, r, st', c, h1, h2, e, q⟩ := h
  unfold splitR at e
  split at e
  · rename_i a b
    obtain ⟨h0, e⟩ := ite_some'' e
    obtain ⟨hf, e⟩ := ite_some e
    cases e
    obtain ⟨v, rfl, h3⟩ := h2.one
    refine ⟨a, b, h1.str, by rw [h3.str], h0, fits_le hf, fun p hp => q _ _ _ (Nx.new hp) (c.new hp) (RR.newLst c hp (RVs.ofStrs _))⟩
  · cases e
theorem mq_strip : MtR X "str.strip" (rdM X.K X.w stripR) := by
  refine MtR.imp mt_stripChars fun x xs H Q h => ?_
  obtain ⟨Z, μ, st, r1, rs, r, st', c, h1, h2, e, q⟩ := h
  unfold stripR at e
  split at e
  · rename_i a b
    obtain ⟨hf, e⟩ := ite_some e
    cases e
    obtain ⟨v, rfl, h3⟩ := h2.one
    exact ⟨a, b, h1.str, by rw [h3.str], fits_le hf, q _ _ _ (Nx.refl _ _) c (.w (.str _))⟩
  · cases e
end

/-! ### text * n -/
def repS (x : Str) (n : Nat) : Str := ⟨(List.replicate n x.cps).foldl (· ++ ·) #[]⟩
def mulR2 (st : Sto) (x y : R) : Option R := match x, y with
  | .w (.str a), .w (.int n) => if decide (0 ≤ n) && (decide (n ≤ 1000) && decide (a.length ≤ 1000)) then some (.w (.str (repS a n.toNat))) else none
  | x, y => mulR st x y
section
variable {X : Cx}
theorem op_mulS : OpR X (binaryOp .Mult) (fun x y H Q => ∃ a n, x = .str a ∧ y = .int n ∧ 0 ≤ n ∧ n ≤ 1000 ∧ a.length ≤ 1000 ∧ Q (.str (repS a n.toNat)) H) := by
  intro pins s σ H x y v u Q I rx ry h
  obtain ⟨a, n, rfl, rfl, h0, h1, h2, q⟩ := h
  obtain ⟨t, rfl⟩ := rx
  obtain ⟨t', rfl⟩ := ry
  have hprod : a.length * n.toNat ≤ 1000000 := by
    have h3 : n.toNat ≤ 1000 := by omega
    calc a.length * n.toNat ≤ 1000 * 1000 := Nat.mul_le_mul h2 h3
      _ = 1000000 := rfl
  have hlen : (repS a n.toNat).length = a.length * n.toNat := by
    have : ∀ (k : Nat) (acc : Array Nat), ((List.replicate k a.cps).foldl (· ++ ·) acc).size = acc.size + a.cps.size * k := by
      intro k
      induction k with
      | zero => intro acc; simp
      | succ k ih => intro acc; rw [List.replicate_succ, List.foldl_cons, ih, Array.size_append, Nat.mul_succ]; omega
    have := this n.toNat #[]
    simpa [repS, Str.length] using this
  have e1 : n = 1 → repS a n.toNat = a := fun e => by subst e; simp [repS]
  have e0 : a.length = 0 → repS a n.toNat = a := fun e => by
    have : (repS a n.toNat).length = 0 := by rw [hlen, e, Nat.zero_mul]
    have h3 : a.cps = #[] := Array.eq_empty_of_size_eq_zero e
    have h4 : (repS a n.toNat).cps = #[] := Array.eq_empty_of_size_eq_zero this
    cases a with
    | mk c => cases h3; simp only [repS] at h4 ⊢; rw [h4]
  refine P.mul_str (by rw [decide_eq_false (by omega), decide_eq_false (by omega)]; rfl) (fun hn _ => ?_) (fun hn _ => ?_) ?_
  · have hdiv : (1000 : Int) ≤ (2 ^ 63 - 1) / n := by
      rw [Int.le_ediv_iff_mul_le (by omega)]; omega
    omega
  · show decide (_ > sizeLine) = false
    exact decide_eq_false (by rw [sizeLine_eq]; omega)
  · by_cases hn : n < 1
    · rw [if_pos hn]
      have ez : n.toNat = 0 := by omega
      have e2 : repS a n.toNat = Str.empty := by rw [ez]; rfl
      refine ⟨by decide, .str (repS a n.toNat), H, I.tok _, ?_, q⟩
      rw [e2]; exact ⟨_, rfl⟩
    · rw [if_neg hn]
      by_cases hb : (n == 1 || a.length == 0) = true
      · rw [if_pos hb]
        have e2 : repS a n.toNat = a := by
          rcases Bool.or_eq_true_iff.mp hb with z | z
          · exact e1 (by simpa using z)
          · exact e0 (by simpa using z)
        rw [e2] at q
        exact ⟨.str a, H, I, ⟨t, rfl⟩, q⟩
      · rw [if_neg hb]
        exact ⟨by show (repS a n.toNat).length ≤ sizeLine; rw [hlen, sizeLine_eq]; omega, .str (repS a n.toNat), H, I.tok _, ⟨_, rfl⟩, q⟩
theorem oq_mul2 : OpQ X (binaryOp .Mult) mulR2 := by
  refine OpR.imp (OpR.or op_mulS (oq_mul (X := X))) fun x y H Q h => ?_
  obtain ⟨Z, μ, st, r1, r2, r, c, h1, h2, e, q⟩ := h
  unfold mulR2 at e
  split at e
  · rename_i a n
    obtain ⟨hf, e⟩ := ite_some e
    cases e
    obtain ⟨f1, f2⟩ := Bool.and_eq_true_iff.mp hf
    obtain ⟨f2, f3⟩ := Bool.and_eq_true_iff.mp f2
    exact .inl ⟨a, n, h1.str, h2.int, of_decide_eq_true f1, of_decide_eq_true f2, of_decide_eq_true f3, q _ _ (Nx.refl _ _) c (.w (.str _))⟩
  · exact .inr ⟨Z, μ, st, r1, r2, r, c, h1, h2, e, q⟩
end

/-! ### zip -/
section
variable {X : Cx} {E : WX}
theorem q_itz {l m : Expr} {f g : Env → M R} {elts : List Expr} {kk : Nat} {tpos p pos : Pos} (hg : Gl X "zip") (hm : X.mg "zip" = none) (hl : QE X E l f) (hr : QE X E m g)
    (hs : starEach [l, m] X.env = (false, eval l X.env) :: starEach [m] X.env := by rfl) (hs2 : starEach [m] X.env = (false, eval m X.env) :: starEach [] X.env := by rfl) (hpl : (backTo pos (starEach [m] X.env)).any (·.1) = false := by rfl) :
    QI X E (.Tuple elts kk tpos) (.Call (.Name "zip" p) [l, m] [] pos) (itZ f g) := (pi_zip hg hm (q_acons hl (q_acons hr q_anil hs2) hs) hs hpl).imp fun σ H R hh => by
  obtain ⟨Z, μ, st, ρ, c, s, q⟩ := hh
  refine ⟨Z, μ, st, ρ, c, s, ?_⟩
  show Sat X.K X.w E Z μ H σ (bnd (f ρ) (fun x => bnd (bnd (g ρ) fun y => bnd (aNil ρ) fun ys => ret (y :: ys)) fun xs => ret (x :: xs)) st) _
  unfold itZ at q
  unfold Iv.bnd at q ⊢
  cases e : f ρ st with
  | bad => rw [e] at q; exact q
  | exc x st1 => rw [e] at q; exact q
  | ok r st1 =>
    rw [e] at q
    simp only at q ⊢
    cases e2 : g ρ st1 with
    | bad => rw [e2] at q; exact q
    | exc x st2 => rw [e2] at q; exact q
    | ok r' st2 =>
      rw [e2] at q
      simp only at q ⊢
      intro μ1 H1 nx c1 vs rv
      split at q
      · rename_i xs ys
        obtain ⟨v, v', rfl, h1, h2⟩ := RRs.two rv
        obtain ⟨a, us, rfl, h3, ru⟩ := h1.listS c1 (xs := xs) rfl
        obtain ⟨b, ws, rfl, h4, rw'⟩ := h2.listS c1 (xs := ys) rfl
        refine ⟨a, b, us, ws, rfl, .of h3, .of h4, q μ1 H1 nx c1 _ fun i Z' μ' H' st' hz k4 k5 k6 c' => ?_⟩
        have r1 : RR X.K X.w (Fb Z' μ') μ' H' (.w (.lst xs)) (.ref a) := h1.mono (kp_of k4 k6) k5
        have r2 : RR X.K X.w (Fb Z' μ') μ' H' (.w (.lst ys)) (.ref b) := h2.mono (kp_of k4 k6) k5
        obtain ⟨a', us', ea, h3', ru'⟩ := r1.listS c' (xs := xs) rfl
        obtain ⟨b', ws', eb, h4', rw''⟩ := r2.listS c' (xs := ys) rfl
        cases ea; cases eb
        refine ⟨fun e => ⟨us', ws', .of h3', .of h4', ?_⟩, fun x e => ?_⟩
        · have e' := Option.some.inj e
          rw [← ru'.length, ← rw''.length]
          cases ex : xs[i]? with
          | none => exact .inl (List.getElem?_eq_none_iff.mp ex)
          | some x =>
            cases ey : ys[i]? with
            | none => exact .inr (List.getElem?_eq_none_iff.mp ey)
            | some y => simp [ex, ey] at e'
        · have e' := Option.some.inj e
          cases ex : xs[i]? with
          | none => simp [ex] at e'
          | some x0 =>
            cases ey : ys[i]? with
            | none => simp [ex, ey] at e'
            | some y0 =>
              simp only [ex, ey] at e'
              cases e'
              obtain ⟨v, ev, rv0⟩ := ru'.get' ex
              obtain ⟨v', ev', rv0'⟩ := rw''.get' ey
              refine ⟨⟨us', ws', v, v', .of h3', .of h4', ev, ev'⟩, fun v'' H'' y => ?_⟩
              obtain ⟨T, x', y', rfl, hT, rfl, y2, y3⟩ := y
              have e4 := y2 us' (.of h3')
              rw [ev] at e4; cases e4
              have e5 := y3 ws' (.of h4')
              rw [ev'] at e5; cases e5
              have hn := RR.newTup (xs := [x0, y0]) (us := [v, v']) c' hT (.cons rv0 (.cons rv0' .nil))
              refine ⟨Nx.new hT, c'.new hT, ?_⟩
              cases hn with
              | w h => exact h
      · exact False.elim q
end
end Iv
end
section
set_option Elab.async false
set_option linter.all false
set_option maxRecDepth 100000
set_option maxHeartbeats 4000000
/-! Iv.R15: dict comprehensions with text and int keys, displays, copies. -/
namespace Iv
open PySem PySem.Spec PyProof.Rows L2

def keyVal (k v : R) : Option (Option (W × W)) := match k, v with
  | .w k, .w v => if flatK k then some (some (k, v)) else none
  | _, _ => none
theorem keyVal_some {k v : R} {o : Option (W × W)} (h : keyVal k v = some o) : ∃ kw vw, k = .w kw ∧ v = .w vw ∧ o = some (kw, vw) ∧ flatK kw = true := by
  unfold keyVal at h
  split at h
  · obtain ⟨f, e⟩ := ite_some h
    exact ⟨_, _, rfl, rfl, e.symm, f⟩
  · cases h
def dcN (nxt : Nat → Sto → Option (Option W)) (step : W → M (Option (W × W))) : Nat → Nat → List (W × W) → M (List (W × W))
  | fuel, i, acc => fun st => match nxt i st with
    | none => .bad
    | some none => .ok acc st
    | some (some x) => match fuel with
      | 0 => .bad
      | k + 1 => match step x st with
        | .ok none st' => dcN nxt step k (i + 1) acc st'
        | .ok (some y) st' => if fits (acc.length + 1) then dcN nxt step k (i + 1) (putD acc y.1 y.2) st' else .bad
        | _ => .bad
/-- one turn: the target, the test, the key, the value -/
def dcStep (ρ : Env) (g : R → Env → Option Env) (t : Env → M Bool) (ek ev : Env → M R) (x : W) : M (Option (W × W)) := match g (.w x) ρ with
  | none => fail
  | some ρ' => bnd (nox (t ρ')) fun b => if b then bnd (nox (ek ρ')) fun r => bnd (nox (ev ρ')) fun r' => ofO (keyVal r r') else ret none
def dcRun (own : List Nat) (fi : Env → M Iter) (g : R → Env → Option Env) (t : Env → M Bool) (ek ev : Env → M R) : Env → M (List (W × W)) := fun ρ => bnd (fi ρ) fun it => dcN it.nxt (dcStep (wipeR ρ own) g t ek ev) it.len 0 []
/-- the new dict is a cell -/
def eDc (own : List Nat) (fi : Env → M Iter) (g : R → Env → Option Env) (t : Env → M Bool) (ek ev : Env → M R) : Env → M R := fun ρ => bnd (dcRun own fi g t ek ev ρ) fun ys => newC (.dic false ys)
section
variable {X : Cx} {E : WX} {K : PySem.W.Frag} {w : World} {Z : Addr → Prop} {μ : List Addr} {H : Hp} {st : Sto}
theorem Nx.underD {μ' : List Addr} {H' : Hp} {D : Addr} {us : List (Key × V)} {o : HO} (x : Nx μ H μ' H') (hD : H D = some (.dK us)) : Nx μ (upd H D o) μ' (upd H' D o) := by
  obtain ⟨ν, e, hν⟩ := x.pre
  refine ⟨⟨ν, e, fun a ha => ?_⟩, fun a u e' hm => ?_⟩
  · obtain ⟨h1, h2⟩ := hν a ha
    have ne : a ≠ D := fun z => by subst z; rw [hD] at h1; cases h1
    exact ⟨by rw [upd_ne ne]; exact h1, h2⟩
  · by_cases h : a = D
    · subst h; rw [upd_same] at e' ⊢; exact e'
    · rw [upd_ne h] at e' ⊢; exact x.fr a u e' hm
theorem dc_read {own slots : List Nat} {fi : Env → M Iter} {g : R → Env → Option Env} {t : Env → M Bool} {ek ev : Env → M R} {σ : L2.St} {k : List (W × W) → M R} {P : R → Sto → List Addr → Hp → Prop} {ρ : Env} {Q : VK} (hsl : ∀ i ∈ slots, i ∈ own) (c : Cells K w Z μ st H) (s : RS K w (Fb Z μ) μ H ρ σ)
    (q : Sat K w E Z μ H σ (bnd (dcRun own fi g t ek ev ρ) k st) P)
    (fin : ∀ {D : Addr} {H1 H2 : Hp} {μ1 μ2 : List Addr} {st2 : Sto} {ys : List (W × W)} {us : List (Key × V)} {st1 : Sto}, Cells K w Z μ1 st1 H1 → H1 D = none → Cells K w (Zp Z D) μ2 st2 H2 → H2 D = some (.dK us) → RKs K w (Fb (Zp Z D) μ2) H2 ys us → Nx μ1 H1 μ2 H2 → Sat K w E Z μ1 H1 σ (k ys st2) P → Q (.ref D) H2) :
    tDc (rdI K w E fi) (rdG K w slots g) (rdT K w WX0 t) (rd K w WX0 ek) (rd K w WX0 ev) own σ H Q := by
  have q0 : Sat K w E Z μ H σ (bnd (fi ρ) (fun it => bnd (dcN it.nxt (dcStep (wipeR ρ own) g t ek ev) it.len 0 []) k) st) P := by
    unfold dcRun at q
    rw [bnd_bnd] at q
    exact q
  refine ⟨Z, μ, st, ρ, c, s, q0.bnd.mono fun it st1 μ1 H1 n1 c1 q1 J ok => ?_⟩
  intro D hD
  have s1 := s.nx n1
  obtain ⟨cE, kE⟩ := c1.enter (o := .dK []) hD
  have sW : RS K w (Fb (Zp Z D) μ1) μ1 (upd H1 D (.dK [])) (wipeR ρ own) (L2.wipe σ own) := by
    have h0 : RS K w (Fb (Zp Z D) μ1) μ1 (upd H1 D (.dK [])) ρ σ := ⟨s1.len, fun i r e => let ⟨v, e', rr⟩ := s1.at_ i r e; ⟨v, e', rr.mono kE fun _ _ z => z⟩⟩
    exact h0.wipe own
  refine ⟨fun i m H' => ∃ μ' st' acc us, Cells K w (Zp Z D) μ' st' H' ∧ RS K w (Fb (Zp Z D) μ') μ' H' (wipeR ρ own) (L2.wipe σ own) ∧ Nx μ1 (upd H1 D (.dK [])) μ' (upd H' D (.dK [])) ∧ H' D = some (.dK us) ∧ RKs K w (Fb (Zp Z D) μ') H' acc us ∧
      Sat K w E Z μ1 H1 σ (bnd (dcN it.nxt (dcStep (wipeR ρ own) g t ek ev) m i acc) k st') P, ⟨it.len, μ1, st1, [], [], cE, sW, by rw [upd_upd]; exact Nx.refl _ _, upd_same, .nil, q1⟩, ?_⟩
  rintro i m H2 ⟨μ2, st2, acc, us, c2, s2, n2, hD2, ra, q2⟩
  -- what holds of (μ2, H2) as a state behind (μ1, H1)
  have fr : ∀ a o, H1 a = some o → a ∉ μ1 → H2 a = some o := fun a o e hm => by
    have ne : a ≠ D := ne_of_none e hD
    have := n2.fr a o (by rw [upd_ne ne]; exact e) hm
    rw [upd_ne ne] at this; exact this
  have n12 : Nx μ1 H1 μ2 H2 := by
    obtain ⟨ν, e, hν⟩ := n2.pre
    refine ⟨⟨ν, e, fun a ha => ?_⟩, fr⟩
    obtain ⟨h1, h2⟩ := hν a ha
    have ne : a ≠ D := fun z => by subst z; rw [upd_same] at h1; cases h1
    rw [upd_ne ne] at h1
    exact ⟨h1, h2⟩
  obtain ⟨st_, go_⟩ := ok i (Zp Z D) μ2 H2 st2 (fun _ h => .inl h) (fun a o e n q => by
    rcases q with q | q | q
    · obtain ⟨ν, e', hν⟩ := n12.pre
      rw [e'] at q
      rcases List.mem_append.mp q with q | q
      · exact n (.inl q)
      · rw [(hν a q).1] at e; cases e
    · exact n (.inr q)
    · subst q; rw [hD] at e; cases e) (fun n a h => n12.at h) (fun a o e hm _ => fr a o e hm) c2
  have Dn : ∀ {μ' : List Addr} {st' : Sto} {H' : Hp}, Cells K w (Zp Z D) μ' st' H' → D ∉ μ' := fun c' q => c'.dis D q (.inr rfl)
  unfold Iv.bnd dcN at q2
  cases e : it.nxt i st2 with
  | none => rw [e] at q2; exact False.elim q2
  | some o =>
    rw [e] at q2
    cases o with
    | none => exact .inl ⟨st_ e, fin c1 hD c2 hD2 ra n12 q2⟩
    | some x =>
      obtain ⟨hgo, hy⟩ := go_ x e
      cases m with
      | zero => exact False.elim q2
      | succ m =>
        simp only at q2
        refine .inr ⟨hgo, fun H' => ∃ μ' st' acc us, Cells K w (Zp Z D) μ' st' H' ∧ RS K w (Fb (Zp Z D) μ') μ' H' (wipeR ρ own) (L2.wipe σ own) ∧ Nx μ1 (upd H1 D (.dK [])) μ' (upd H' D (.dK [])) ∧ H' D = some (.dK us) ∧ RKs K w (Fb (Zp Z D) μ') H' acc us ∧
          Sat K w E Z μ1 H1 σ (bnd (dcN it.nxt (dcStep (wipeR ρ own) g t ek ev) m (i + 1) acc) k st') P, fun H' h' => ⟨m, Nat.lt_succ_self m, h'⟩, fun v H3 y => ?_⟩
        obtain ⟨n3, c3, rv⟩ := hy v H3 y
        cases eg : g (.w x) (wipeR ρ own) with
        | none =>
          have z : dcStep (wipeR ρ own) g t ek ev x st2 = .bad := by unfold dcStep; rw [eg]; rfl
          rw [z] at q2
          exact False.elim q2
        | some ρ' =>
          have z : dcStep (wipeR ρ own) g t ek ev x = bnd (nox (t ρ')) fun b => if b then bnd (nox (ek ρ')) fun r => bnd (nox (ev ρ')) fun r' => ofO (keyVal r r') else ret none := by unfold dcStep; rw [eg]
          rw [z] at q2
          refine ⟨Zp Z D, μ2, st2, wipeR ρ own, .w x, ρ', c3, s2.nx n3, .w rv, eg, fun σ3 s3 k3 => ⟨wipe_kept k3 hsl, Zp Z D, μ2, st2, ρ', c3, s3, ?_⟩⟩
          unfold Iv.bnd nox at q2
          cases et : t ρ' st2 with
          | bad => rw [et] at q2; exact False.elim q2
          | exc a b => rw [et] at q2; exact False.elim q2
          | ok b st3 =>
            rw [et] at q2
            simp only at q2
            intro μ4 H4 n4 c4
            have n34 := n3.trans n4
            have hD4 : H4 D = some (.dK us) := n34.fr D _ hD2 (Dn c2)
            cases b with
            | false =>
              refine iteF ?_
              exact ⟨μ4, st3, acc, us, c4, s2.nx n34, n2.trans (n34.underD hD2), hD4, ra.nx n34, q2⟩
            | true =>
              refine iteT ?_
              refine ⟨Zp Z D, μ4, st3, ρ', c4, s3.nx n4, ?_⟩
              simp only [if_true] at q2
              cases ee : ek ρ' st3 with
              | bad => rw [ee] at q2; exact False.elim q2
              | exc a b => rw [ee] at q2; exact False.elim q2
              | ok r5 st5 =>
                rw [ee] at q2
                simp only at q2
                intro μ5 H5 n5 c5 v5 rv5
                refine ⟨Zp Z D, μ5, st5, ρ', c5, (s3.nx n4).nx n5, ?_⟩
                cases ev6 : ev ρ' st5 with
                | bad => rw [ev6] at q2; exact False.elim q2
                | exc a b => rw [ev6] at q2; exact False.elim q2
                | ok r6 st6 =>
                  rw [ev6] at q2
                  simp only at q2
                  intro μ6 H6 n6 c6 v6 rv6
                  have n36 := (n34.trans n5).trans n6
                  have hD6 : H6 D = some (.dK us) := n36.fr D _ hD2 (Dn c2)
                  cases ek7 : keyVal r5 r6 with
                  | none => rw [ek7] at q2; exact False.elim q2
                  | some o =>
                    have eo : ofO (some o) st6 = .ok o st6 := rfl
                    rw [ek7, eo] at q2
                    obtain ⟨kw, vw, rfl, rfl, rfl, fk⟩ := keyVal_some ek7
                    simp only at q2
                    by_cases hf : fits (acc.length + 1) = true
                    · rw [if_pos hf] at q2
                      have hv5 : RV K w (Fb (Zp Z D) μ5) H5 kw v5 := by
                        cases rv5 with
                        | w h => exact h
                      have hv6 : RV K w (Fb (Zp Z D) μ6) H6 vw v6 := by
                        cases rv6 with
                        | w h => exact h
                      obtain ⟨kk, rfl, rfl⟩ := flatK_wK fk hv5
                      obtain ⟨c7, k7⟩ := c6.zwrite (o := .dK (putK us kk v6))
                      have sl := of_decide_eq_true hf
                      refine ⟨us, kk, rfl, hD6, ?_, μ6, st6, putD acc (wK kk) vw, putK us kk v6, c7, ?_, ?_, upd_same, ((ra.nx n36).put hv6).mono k7, by unfold Iv.bnd; exact q2⟩
                      · rw [← ra.length, sizeLine_eq]; omega
                      · have s5 := s2.nx n36
                        exact ⟨s5.len, fun j r e => let ⟨v, e', rr⟩ := s5.at_ j r e; ⟨v, e', rr.mono k7 fun _ _ z => z⟩⟩
                      · rw [upd_upd]; exact n2.trans (n36.underD hD2)
                    · rw [if_neg hf] at q2
                      exact False.elim q2
variable {tg iter kx vx : Expr} {ifs : List Expr} {scope : Scope} {own : List (Str × Nat)} {slots : List Nat} {fi : Env → M Iter} {g : R → Env → Option Env} {t : Env → M Bool} {ek ev : Env → M R} {pos : Pos}
theorem dc_finC {σ : L2.St} {Q : VK} {D : Addr} {H1 H2 : Hp} {μ1 μ2 : List Addr} {st2 : Sto} {ys : List (W × W)} {us : List (Key × V)} {st1 : Sto} (c1 : Cells K w Z μ1 st1 H1) (hD : H1 D = none) (c2 : Cells K w (Zp Z D) μ2 st2 H2) (hD2 : H2 D = some (.dK us)) (ra : RKs K w (Fb (Zp Z D) μ2) H2 ys us) (n12 : Nx μ1 H1 μ2 H2)
    (q : Sat K w E Z μ1 H1 σ (newC (.dic false ys) st2) fun r _ μ' H' => ∀ v, RR K w (Fb Z μ') μ' H' r v → Q v H') : Q (.ref D) H2 := by
  have nD : D ∉ μ2 := fun z => c2.dis D z (.inr rfl)
  have kp : Kp (Fb (Zp Z D) μ2) H2 (Fb Z (μ2 ++ [D])) H2 := Kp.same fun a n z => n (by
    rcases z with z | z
    · rcases List.mem_append.mp z with z | z
      · exact .inl z
      · exact .inr (.inr (by simpa using z))
    · exact .inr (.inl z))
  have hμ : ∀ (n : Nat) (a : Addr), μ2[n]? = some a → (μ2 ++ [D])[n]? = some a := fun n a h => by
    rw [List.getElem?_append_left (List.getElem?_eq_some_iff.mp h).1]; exact h
  have c3 : Cells K w Z (μ2 ++ [D]) (st2 ++ [.dic false ys]) H2 := by
    refine ⟨by simp [c2.len], ?_, fun a ha z => ?_, fun a z => c2.there a (.inl z), fun n ce a h1 h2 => ?_⟩
    · rw [List.nodup_append]
      refine ⟨c2.nd, by simp, fun a ha b hb e => ?_⟩
      have e' : b = D := by simpa using hb
      subst e' e
      exact nD ha
    · rcases List.mem_append.mp ha with q | q
      · exact c2.dis a q (.inl z)
      · have e' : a = D := by simpa using q
        subst e'
        exact c1.fresh hD (.inr z)
    · by_cases hn : n < st2.length
      · rw [List.getElem?_append_left hn] at h1
        rw [List.getElem?_append_left (by rw [c2.len]; exact hn)] at h2
        exact (c2.ok n ce a h1 h2).mono kp hμ rfl
      · have hlt := (List.getElem?_eq_some_iff.mp h1).1
        simp only [List.length_append, List.length_cons, List.length_nil] at hlt
        have en : n = st2.length := by omega
        subst en
        rw [List.getElem?_append_right (by simp)] at h1
        rw [List.getElem?_append_right (by rw [c2.len]; exact Nat.le_refl _), c2.len] at h2
        simp at h1 h2
        subst h1 h2
        exact .dicK hD2 (ra.mono kp)
  have n13 : Nx μ1 H1 (μ2 ++ [D]) H2 := by
    obtain ⟨ν, e, hν⟩ := n12.pre
    refine ⟨⟨ν ++ [D], by rw [e, List.append_assoc], fun a ha => ?_⟩, n12.fr⟩
    rcases List.mem_append.mp ha with z | z
    · exact hν a z
    · have e' : a = D := by simpa using z
      subst e'
      exact ⟨hD, fun z => c1.fresh hD (.inl z)⟩
  exact q _ H2 n13 c3 _ (.loc (by rw [← c2.len, List.getElem?_append_right (Nat.le_refl _)]; simp))
theorem q_dc (hc : X.calm = true) (hN : X.N.Nodup) (hi : QI X E tg iter fi) (ok : BlkOk X.N X.env.scope scope own) (hsl : ∀ i ∈ slots, i ∈ own.map (·.2))
    (hg : ∀ (s : Shared) (H : Hp) (C : Addr) (cl : List (Str × Addr)) (fp : List Addr), QG (X.blk s H scope (compEnvC scope cl C X.env) fp) tg slots g)
    (ht : ∀ (s : Shared) (H : Hp) (C : Addr) (cl : List (Str × Addr)) (fp : List Addr), PTs (X.blk s H scope (compEnvC scope cl C X.env) fp) ifs (rdT X.K X.w WX0 t))
    (hk : ∀ (s : Shared) (H : Hp) (C : Addr) (cl : List (Str × Addr)) (fp : List Addr), QE (X.blk s H scope (compEnvC scope cl C X.env) fp) WX0 kx ek)
    (he : ∀ (s : Shared) (H : Hp) (C : Addr) (cl : List (Str × Addr)) (fp : List Addr), QE (X.blk s H scope (compEnvC scope cl C X.env) fp) WX0 vx ev) (hs : ∀ x, foldedSetIterable iter X.env x = pure x := by intro _; rfl) :
    QE X E (.DictComp kx vx [⟨tg, iter, ifs, 0⟩] scope pos) (eDc (own.map (·.2)) fi g t ek ev) := (pe_dc hc hN hi ok hg ht hk he hs).imp fun σ H Q hh => by
  obtain ⟨Z, μ, st, ρ, c, s, q⟩ := hh
  exact dc_read hsl c s q fun c1 hD c2 hD2 ra n12 q => dc_finC c1 hD c2 hD2 ra n12 q
end
end Iv
end
section
set_option Elab.async false
set_option linter.all false
set_option maxRecDepth 100000
set_option maxHeartbeats 4000000
/-! Iv.R16: displays of dicts, dict(d), t[::-1]. -/
namespace Iv
open PySem PySem.Spec PyProof.Rows L2

section
variable {K : PySem.W.Frag} {w : World} {Z : Addr → Prop} {μ μ1 μ2 : List Addr} {H H1 H2 : Hp} {st st1 st2 : Sto} {D : Addr}
theorem adopt_kp : Kp (Fb (Zp Z D) μ2) H2 (Fb Z (μ2 ++ [D])) H2 := Kp.same fun a n z => n (by
    rcases z with z | z
    · rcases List.mem_append.mp z with z | z
      · exact .inl z
      · exact .inr (.inr (by simpa using z))
    · exact .inr (.inl z))
/-- what grew aside is a cell from now on -/
theorem adopt {ce : Cell} (c1 : Cells K w Z μ1 st1 H1) (hD : H1 D = none) (c2 : Cells K w (Zp Z D) μ2 st2 H2) (n12 : Nx μ1 H1 μ2 H2) (hc : CellOk K w (Fb Z (μ2 ++ [D])) (μ2 ++ [D]) H2 D ce) :
    Nx μ1 H1 (μ2 ++ [D]) H2 ∧ Cells K w Z (μ2 ++ [D]) (st2 ++ [ce]) H2 ∧ (μ2 ++ [D])[st2.length]? = some D := by
  have nD : D ∉ μ2 := fun z => c2.dis D z (.inr rfl)
  have hμ : ∀ (n : Nat) (a : Addr), μ2[n]? = some a → (μ2 ++ [D])[n]? = some a := fun n a h => by
    rw [List.getElem?_append_left (List.getElem?_eq_some_iff.mp h).1]; exact h
  refine ⟨?_, ?_, by rw [← c2.len, List.getElem?_append_right (Nat.le_refl _)]; simp⟩
  · obtain ⟨ν, e, hν⟩ := n12.pre
    refine ⟨⟨ν ++ [D], by rw [e, List.append_assoc], fun a ha => ?_⟩, n12.fr⟩
    rcases List.mem_append.mp ha with z | z
    · exact hν a z
    · have e' : a = D := by simpa using z
      rw [e']
      exact ⟨hD, fun z => c1.fresh hD (.inl z)⟩
  · refine ⟨by simp [c2.len], ?_, fun a ha z => ?_, fun a z => c2.there a (.inl z), fun n ce' a h1 h2 => ?_⟩
    · rw [List.nodup_append]
      refine ⟨c2.nd, by simp, fun a ha b hb e => ?_⟩
      have e' : b = D := by simpa using hb
      rw [e', ← e'] at e
      exact nD (by rw [← e', ← e]; exact ha)
    · rcases List.mem_append.mp ha with q | q
      · exact c2.dis a q (.inl z)
      · have e' : a = D := by simpa using q
        rw [e'] at z
        exact c1.fresh hD (.inr z)
    · by_cases hn : n < st2.length
      · rw [List.getElem?_append_left hn] at h1
        rw [List.getElem?_append_left (by rw [c2.len]; exact hn)] at h2
        exact (c2.ok n ce' a h1 h2).mono adopt_kp hμ rfl
      · have hlt := (List.getElem?_eq_some_iff.mp h1).1
        simp only [List.length_append, List.length_cons, List.length_nil] at hlt
        have en : n = st2.length := by omega
        subst en
        rw [List.getElem?_append_right (by simp)] at h1
        rw [List.getElem?_append_right (by rw [c2.len]; exact Nat.le_refl _), c2.len] at h2
        simp at h1 h2
        subst h1 h2
        exact hc
/-- aside of the new thing at D -/
theorem Nx.aside {o o' : HO} (hD : H D = none) (n : Nx μ (upd H D o) μ2 H2) : Nx μ H μ2 (upd H2 D o') ∧ Nx μ H μ2 H2 := by
  obtain ⟨ν, e, hν⟩ := n.pre
  have pre : ∃ ν, μ2 = μ ++ ν ∧ ∀ a ∈ ν, H a = none ∧ a ∉ μ := ⟨ν, e, fun a ha => by
    obtain ⟨h1, h2⟩ := hν a ha
    have ne : a ≠ D := fun z => by rw [z, upd_same] at h1; cases h1
    rw [upd_ne ne] at h1
    exact ⟨h1, h2⟩⟩
  have fr : ∀ a u, H a = some u → a ∉ μ → H2 a = some u := fun a u h hm => n.fr a u (by rw [upd_ne (ne_of_none h hD)]; exact h) hm
  exact ⟨⟨pre, fun a u h hm => by rw [upd_ne (ne_of_none h hD)]; exact fr a u h hm⟩, pre, fr⟩
end

/-! ### {'k': v, ..} -/
theorem mergeK_nodup : ∀ (more acc : List (Key × V)), ((acc ++ more).map (·.1)).Nodup → mergeK acc more = acc ++ more
  | [], acc, _ => by show acc = acc ++ []; rw [List.append_nil]
  | p :: r, acc, h => by
    have hn : putK acc p.1 p.2 = acc ++ [p] := by
      unfold putK
      rw [if_neg]
      intro q
      obtain ⟨x, hx, e⟩ := List.any_eq_true.mp q
      have e' : x.1 = p.1 := of_decide_eq_true e
      rw [List.map_append, List.nodup_append] at h
      exact h.2.2 x.1 (List.mem_map_of_mem hx) p.1 (by simp) e'
    show mergeK (putK acc p.1 p.2) r = _
    rw [hn, mergeK_nodup r (acc ++ [p]) (by rw [List.append_assoc]; exact h), List.append_assoc]
    rfl
def pairsV (ks : List Str) (vs : List V) : List (V × V) := (ks.zip vs).map fun p => (V.str p.1, p.2)
structure QPs (X : Cx) (E : WX) (pos : Pos) (keys : List (Option Expr)) (values : List Expr) (ks : List Str) (g : Env → M (List R)) : Prop where
  ex : ∃ trs, PPs X pos keys values trs ∧ ∀ (σ : L2.St) (H : Hp) (Q : List (V × V) → Hp → Prop), rdA X.K X.w E g σ H (fun vs H' => vs.length = ks.length → Q (pairsV ks vs) H') → tPairs trs σ H Q
def eRcd (ks : List Str) (g : Env → M (List R)) : Env → M R := fun ρ => bnd (g ρ) fun rs => newC (.rcd (ks.zip rs))
def eDic (ks : List Str) (g : Env → M (List R)) : Env → M R := fun ρ => bnd (g ρ) fun rs => bnd (ofO (mapO asW rs)) fun ws => newC (.dic false ((ks.map W.str).zip ws))
section
variable {X : Cx} {E : WX} {K : PySem.W.Frag} {w : World} {F : Addr → Prop} {Z : Addr → Prop} {μ : List Addr} {H : Hp} {st : Sto}
theorem q_pnil {pos : Pos} : QPs X E pos [] [] [] aNil := ⟨[], pps_nil, fun σ H Q ⟨Z, μ, st, ρ, c, s, q⟩ => q.ok c [] .nil rfl⟩
theorem rdA_cons {f : Env → M R} {g : Env → M (List R)} {σ : L2.St} {H : Hp} {Q : List V → Hp → Prop} (h : rdA K w E (aCons f g) σ H Q) : rd K w E f σ H fun v H1 => rdA K w E g σ H1 fun vs H2 => Q (v :: vs) H2 := by
  obtain ⟨Z, μ, st, ρ, c, s, q⟩ := h
  refine rd_step (f := f) c s q fun r1 st1 μ1 H1 v1 n1 c1 s1 rv1 q1 => ?_
  refine rdA_step (f := g) c1 s1 q1 fun r2 st2 μ2 H2 v2 n2 c2 s2 rv2 q2 => ?_
  exact q2.ok c2 _ (.cons (rv1.nx n2) rv2)
theorem rdA.mono {g : Env → M (List R)} {σ : L2.St} {H : Hp} {Q Q' : List V → Hp → Prop} (h : rdA K w E g σ H Q) (i : ∀ vs H', Q vs H' → Q' vs H') : rdA K w E g σ H Q' := by
  obtain ⟨Z, μ, st, ρ, c, s, q⟩ := h
  exact ⟨Z, μ, st, ρ, c, s, q.mono fun r st' μ' H' nx c' q' v rv => i _ _ (q' v rv)⟩
theorem q_pcons {k : Str} {kk : Nat} {p pos : Pos} {v : Expr} {keys : List (Option Expr)} {values : List Expr} {ks : List Str} {f : Env → M R} {g : Env → M (List R)} (hv : QE X E v f) (hr : QPs X E pos keys values ks g) : QPs X E pos (some (.Constant (.str k) kk p) :: keys) (v :: values) (k :: ks) (aCons f g) := by
  obtain ⟨trs, pp, hi⟩ := hr.ex
  refine ⟨(tC (.str k), rd X.K X.w E f) :: trs, pps_cons pe_str hv pp, fun σ H Q h => ?_⟩
  have h1 := rdA_cons h
  obtain ⟨Z, μ, st, ρ, c, s, q⟩ := h1
  refine ⟨Z, μ, st, ρ, c, s, q.mono fun r st' μ' H' nx c' q' v rv => hi σ H' _ ((q' v rv).mono fun vs H2 h2 hl => h2 ?_)⟩
  rw [List.length_cons, List.length_cons, hl]
theorem RRs.zip : ∀ {ks : List Str} {rs : List R} {vs : List V}, RRs K w F μ H rs vs → RRd K w F μ H (ks.zip rs) ((ks.zip vs).map fun p => ((.inr p.1 : Key), p.2))
  | [], _, _, _ => .nil
  | _ :: _, _, _, .nil => .nil
  | _ :: ks, _, _, .cons a b => .cons a (RRs.zip b)
theorem RVs.zip : ∀ {ks : List Str} {rs : List W} {vs : List V}, RVs K w F H rs vs → RKs K w F H ((ks.map W.str).zip rs) ((ks.zip vs).map fun p => ((.inr p.1 : Key), p.2))
  | [], _, _, _ => .nil
  | _ :: _, _, _, .nil => .nil
  | _ :: ks, _, _, .cons a b => .str a (RVs.zip b)
theorem zip_keys : ∀ {ks : List Str} {vs : List V}, vs.length = ks.length → ((ks.zip vs).map fun p => ((.inr p.1 : Key), p.2)).map (·.1) = ks.map Sum.inr
  | [], _, _ => rfl
  | k :: ks, [], h => by cases h
  | k :: ks, v :: vs, h => by
    have := zip_keys (ks := ks) (vs := vs) (Nat.succ.inj h)
    simp only [List.zip_cons_cons, List.map_cons] at this ⊢
    rw [this]
theorem nodup_inr : ∀ {ks : List Str}, ks.Nodup → (ks.map (Sum.inr : Str → Key)).Nodup
  | [], _ => List.nodup_nil
  | k :: ks, h => by
    rw [List.nodup_cons] at h
    rw [List.map_cons, List.nodup_cons]
    refine ⟨fun q => ?_, nodup_inr h.2⟩
    obtain ⟨x, hx, e⟩ := List.mem_map.mp q
    exact h.1 (Sum.inr.inj e ▸ hx)
/-- aside: the values are made while the new dict stands empty -/
theorem disp_read {ks : List Str} {g : Env → M (List R)} {σ : L2.St} {k : List R → M R} {ρ : Env} {Q : VK} (hks : ks.Nodup) (h15 : ks.length ≤ 15) {trs : List (TE × TE)} (ht : ∀ (σ : L2.St) (H : Hp) (Q : List (V × V) → Hp → Prop), rdA K w E g σ H (fun vs H' => vs.length = ks.length → Q (pairsV ks vs) H') → tPairs trs σ H Q)
    (hk : ∀ rs st1 D H2 μ2 vs, RRs K w (Fb Z (μ2 ++ [D])) (μ2 ++ [D]) H2 rs vs → H2 D = some (.dK ((ks.zip vs).map fun p => ((.inr p.1 : Key), p.2))) → ∀ P', Sat K w E Z μ H σ (k rs st1) P' → ∃ ce, CellOk K w (Fb Z (μ2 ++ [D])) (μ2 ++ [D]) H2 D ce ∧ Sat K w E Z μ H σ (newC ce st1) P')
    (c : Cells K w Z μ st H) (s : RS K w (Fb Z μ) μ H ρ σ) (hl : ∀ st rs st1, g ρ st = .ok rs st1 → rs.length = ks.length)
    (q : Sat K w E Z μ H σ (bnd (g ρ) k st) fun r _ μ' H' => ∀ v, RR K w (Fb Z μ') μ' H' r v → Q v H') : tDisp trs σ H Q := by
  intro p hp
  obtain ⟨cE, kE⟩ := c.enter (o := .dK []) hp
  have sE : RS K w (Fb (Zp Z p) μ) μ (upd H p (.dK [])) ρ σ := ⟨s.len, fun i r e => let ⟨v, e', rr⟩ := s.at_ i r e; ⟨v, e', rr.mono kE fun _ _ z => z⟩⟩
  refine ht σ _ _ ⟨Zp Z p, μ, st, ρ, cE, sE, ?_⟩
  unfold Iv.bnd at q
  cases eg : g ρ st with
  | bad => rw [eg] at q; exact q
  | exc x st1 =>
    rw [eg] at q
    intro μ' H' cls d nx c' rx
    obtain ⟨c3, k3⟩ := c'.leave
    exact q μ' H' cls d (nx.aside (o' := .dK []) hp).2 c3 (rx.mono k3 fun _ _ e _ => e)
  | ok rs st1 =>
    rw [eg] at q
    simp only at q
    intro μ' H' nx c' vs rv hlen
    have hp' : H' p = some (.dK []) := nx.fr p _ upd_same fun z => c'.dis p (nx.at (List.mem_iff_getElem?.mp z).choose_spec |> List.mem_of_getElem?) (.inr rfl)
    refine ⟨hp', (ks.zip vs).map (fun z => ((.inr z.1 : Key), z.2)), ?_, ?_, ?_⟩
    · unfold pairsV; rw [List.map_map]; rfl
    · rw [List.length_map, List.length_zip]; omega
    · have hm : mergeK [] ((ks.zip vs).map fun z => ((.inr z.1 : Key), z.2)) = (ks.zip vs).map fun z => ((.inr z.1 : Key), z.2) := by
        rw [mergeK_nodup _ [] ?_, List.nil_append]
        rw [List.nil_append, zip_keys hlen]
        exact nodup_inr hks
      rw [hm]
      obtain ⟨c2, k2⟩ := c'.zwrite (o := .dK ((ks.zip vs).map fun z => ((.inr z.1 : Key), z.2)))
      have rv2 : RRs K w (Fb Z (μ' ++ [p])) (μ' ++ [p]) (upd H' p (.dK ((ks.zip vs).map fun z => ((.inr z.1 : Key), z.2)))) rs vs :=
        (rv.mono k2 fun _ _ z => z).mono adopt_kp fun n a h => by rw [List.getElem?_append_left (List.getElem?_eq_some_iff.mp h).1]; exact h
      obtain ⟨ce, hc, q2⟩ := hk rs st1 p _ μ' vs rv2 upd_same _ q
      obtain ⟨n3, c3, h3⟩ := adopt c hp c2 (nx.aside hp).1 hc
      exact q2 _ _ n3 c3 _ (.loc h3)
theorem q_rcd {keys : List (Option Expr)} {values : List Expr} {ks : List Str} {g : Env → M (List R)} {pos : Pos} (h : QPs X E pos keys values ks g) (hks : ks.Nodup) (h15 : ks.length ≤ 15) (hall : keys.all (·.isSome) = true) (hl : keys.length = values.length) (h0 : keys ≠ []) (hk15 : keys.length ≤ 15)
    (hgl : ∀ ρ st rs st1, g ρ st = .ok rs st1 → rs.length = ks.length) : QE X E (.Dict keys values pos) (eRcd ks g) := by
  obtain ⟨trs, pp, ht⟩ := h.ex
  refine (pe_disp pp hall hl h0 hk15).imp fun σ H Q hh => ?_
  obtain ⟨Z, μ, st, ρ, c, s, q⟩ := hh
  exact disp_read (k := fun rs => newC (.rcd (ks.zip rs))) hks h15 ht (fun rs st1 D H2 μ2 vs rv hD P' q' => ⟨_, .rcd hD rv.zip, q'⟩) c s (fun st rs st1 e => hgl ρ st rs st1 e) q
theorem q_dic {keys : List (Option Expr)} {values : List Expr} {ks : List Str} {g : Env → M (List R)} {pos : Pos} (h : QPs X E pos keys values ks g) (hks : ks.Nodup) (h15 : ks.length ≤ 15) (hall : keys.all (·.isSome) = true) (hl : keys.length = values.length) (h0 : keys ≠ []) (hk15 : keys.length ≤ 15)
    (hgl : ∀ ρ st rs st1, g ρ st = .ok rs st1 → rs.length = ks.length) : QE X E (.Dict keys values pos) (eDic ks g) := by
  obtain ⟨trs, pp, ht⟩ := h.ex
  refine (pe_disp pp hall hl h0 hk15).imp fun σ H Q hh => ?_
  obtain ⟨Z, μ, st, ρ, c, s, q⟩ := hh
  refine disp_read (k := fun rs => bnd (ofO (mapO asW rs)) fun ws => newC (.dic false ((ks.map W.str).zip ws))) hks h15 ht (fun rs st1 D H2 μ2 vs rv hD P' q' => ?_) c s (fun st rs st1 e => hgl ρ st rs st1 e) q
  cases em : mapO asW rs with
  | none => rw [em] at q'; exact False.elim q'
  | some ws =>
    rw [em] at q'
    exact ⟨_, .dicK hD (rv.ws em).zip, q'⟩
theorem aNil_len : ∀ ρ st rs st1, aNil ρ st = .ok rs st1 → rs.length = 0 := fun ρ st rs st1 e => by cases e; rfl
theorem aCons_len {f : Env → M R} {g : Env → M (List R)} {n : Nat} (h : ∀ ρ st rs st1, g ρ st = .ok rs st1 → rs.length = n) : ∀ ρ st rs st1, aCons f g ρ st = .ok rs st1 → rs.length = n + 1 := fun ρ st rs st1 e => by
  unfold aCons Iv.bnd at e
  cases e1 : f ρ st with
  | bad => rw [e1] at e; cases e
  | exc a b => rw [e1] at e; cases e
  | ok r st2 =>
    rw [e1] at e
    simp only at e
    cases e2 : g ρ st2 with
    | bad => rw [e2] at e; cases e
    | exc a b => rw [e2] at e; cases e
    | ok rs2 st3 =>
      rw [e2] at e
      cases e
      rw [List.length_cons, h ρ st2 rs2 _ e2]
end
end Iv
end
section
set_option Elab.async false
set_option linter.all false
set_option maxRecDepth 100000
set_option maxHeartbeats 4000000
/-! Iv.R17: t[::-1] of a tuple. -/
namespace Iv
open PySem PySem.Spec PyProof.Rows L2

theorem rev_adjust (n : Nat) : Builtin.Slice.sliceAdjust none none (-1) (n : Int) = ((n : Int) - 1, -1) := by
  unfold Builtin.Slice.sliceAdjust
  simp
theorem rev_places (n : Nat) : Builtin.Slice.slicePlaces ((n : Int) - 1) (-1) (-1) = n := by
  unfold Builtin.Slice.slicePlaces
  simp
  omega
theorem rev_pick (xs : Array Value) : ((List.range xs.size).filterMap fun (k : Nat) => xs[(((xs.size : Int) - 1) + (k : Int) * (-1)).toNat]?).toArray = xs.toList.reverse.toArray := by
  congr 1
  have e : ∀ k ∈ List.range xs.size, xs[(((xs.size : Int) - 1) + (k : Int) * (-1)).toNat]? = xs.toList.reverse[k]? := fun k hk => by
    have := List.mem_range.mp hk
    rw [List.getElem?_reverse (by simpa using this)]
    have : (((xs.size : Int) - 1) + (k : Int) * (-1)).toNat = xs.toList.length - 1 - k := by simp; omega
    rw [this]; simp
  have h2 : ∀ (l : List Value), (List.range l.length).filterMap (fun k => l[k]?) = l := fun l => by
    apply List.ext_getElem?
    intro i
    induction l generalizing i with
    | nil => simp
    | cons a t ih =>
      rw [List.length_cons, List.range_succ_eq_map, List.filterMap_cons]
      simp only [List.getElem?_cons_zero]
      rw [List.filterMap_map]
      cases i with
      | zero => simp
      | succ i =>
        simp only [List.getElem?_cons_succ]
        exact ih i
  have cg : ∀ (l : List Nat) (f g : Nat → Option Value), (∀ k ∈ l, f k = g k) → l.filterMap f = l.filterMap g := fun l f g h => by
    induction l with
    | nil => rfl
    | cons a t ih => rw [List.filterMap_cons, List.filterMap_cons, h a (by simp), ih fun k hk => h k (by simp [hk])]
  rw [cg _ _ _ e]
  have := h2 xs.toList.reverse
  simpa using this
/-- the slice [::-1] upon n places -/
theorem rev_applied {prog : Program} {w : World} {A : Around} {E : Value → Shared → Prop} {s : Shared} {sl : Addr} {vk : Value} {n : Nat} {Q : Int × Int × Nat → Shared → Prop} (at_ : s.heap.IsSliceOf sl .none .none vk) (pk : IsPart vk (some (-1))) (fin : Q ((n : Int) - 1, -1, n) s) :
    wpAny (model prog w) A (Builtin.Slice.sliceApplied (.ref sl) (pure (n : Int))) Q E s := by
  obtain ⟨o, ho, _, hf⟩ := at_
  -- the three parts, read off the slice's object
  have parts : ∀ {Q' : Value × Value × Value → Shared → Prop}, Q' (.none, .none, vk) s → wpAny (model prog w) A (Builtin.Slice.sliceFields (.ref sl)) Q' E s := fun q =>
    wpAny_bind (wpAny_field ho hf (x := .none) rfl (wpAny_bind (wpAny_field ho hf (x := .none) rfl (wpAny_bind (wpAny_field ho hf (x := vk) rfl (wpAny_pure q))))))
  refine wpAny_bind (parts (wpAny_bind (HT.slicePart_ pk ?_)))
  have nz : ¬ (((some (-1) : Option Int).getD 1 == 0) = true) := by decide
  rw [if_neg nz]
  refine wpAny_bind (HT.slicePart_ .none (wpAny_bind (HT.slicePart_ .none (wpAny_bind (wpAny_pure (wpAny_pure ?_))))))
  show Q ((Builtin.Slice.sliceAdjust none none (-1) (n : Int)).1, -1, Builtin.Slice.slicePlaces (Builtin.Slice.sliceAdjust none none (-1) (n : Int)).1 (Builtin.Slice.sliceAdjust none none (-1) (n : Int)).2 (-1)) s
  rw [rev_adjust, rev_places]
  exact fin
/-- the built-in's own text at t[::-1] -/
theorem rev_body {prog : Program} {w : World} {A : Around} {E : Value → Shared → Prop} {s : Shared} {t sl : Addr} {items : Array Value} {vk : Value} {Q : Value → Shared → Prop} (ht : IsTup s.heap t items) (at_ : s.heap.IsSliceOf sl .none .none vk) (pk : IsPart vk (some (-1))) (fit : items.size ≤ sizeLine)
    (fin : Q (.ref s.heap.objs.size) { s with heap := s.heap.push { cls := .type "tuple", data := .seq items.toList.reverse.toArray } }) :
    wpAny (model prog w) A (Builtin.«tuple.__getitem__» ⟨[.ref t, .ref sl], []⟩) (fun f s' => ∃ v, f = .done (.ret v) ∧ Q v s') E s := by
  have isSlice : s.TypeIs (.ref sl) "slice" := let ⟨o, ho, hc, _⟩ := at_; ⟨o, ho, hc⟩
  have laid : sizeOk (.seq items.toList.reverse.toArray) := by
    have e : items.toList.reverse.toArray.size = items.size := by simp
    exact (show items.toList.reverse.toArray.size ≤ sizeLine from e ▸ fit)
  refine wpAny_bind (m := Builtin.Tuple.tupleItemsOf (.ref t)) (tupleItemsOf_ ht (wpAny_bind (wpAny_typeOf isSlice ?_)))
  have yes : ((Value.type "slice" == Value.type "slice") = true) := by decide
  rw [if_pos yes]
  refine wpAny_bind (rev_applied (n := items.size) at_ pk ?_)
  have no : ¬ ((((items.size : Int) - 1 == 0) && ((-1 : Int) == 1) && (items.size == items.size)) = true) := by simp
  refine (show wpAny _ _ (if (((items.size : Int) - 1 == 0) && ((-1 : Int) == 1) && (items.size == items.size)) = true then _ else _) _ _ s from ?_)
  rw [if_neg no, rev_pick]
  have last : wpAny (model prog w) A (Builtin.Tuple.tupleExact items.toList.reverse.toArray) (fun v s' => Q v s') E s := wpAny_newObj_type fin laid
  exact wpAny_bind (thn last fun v s' q => wpAny_pure ⟨v, rfl, q⟩)
/-! ### x[lo:hi:k], whatever the three parts are -/
section
variable {X : Cx} {E : WX}
/-- what a subscription by a slice of three parts asks -/
def Sl3 (X : Cx) (T id : String) (r : V → Option Int → Option Int → Option Int → Hp → VK → Prop) : Prop := ∀ (pins : List (Addr × Obj)) (s : Shared) (σ : L2.St) (H : Hp) (x : V) (v v1 v2 v3 : Value) (o1 o2 o3 : Option Int) (sl : Addr) (Q : VK),
  Inv X pins σ H s → RelV x v → s.heap.IsSliceOf sl v1 v2 v3 → IsPart v1 o1 → IsPart v2 o2 → IsPart v3 o3 → r x o1 o2 o3 H Q → s.TypeIs v T ∧ wpAny (model X.prog X.w) X.A (getItem v (.ref sl)) (EP X pins σ Q) X.xe s
theorem pe_sl3 {T id : String} {r : V → Option Int → Option Int → Option Int → Hp → VK → Prop} {e : Expr} {a b c : Option Expr} {te : TE} {ta tb tc : TO} {p pos : Pos} (sr : Sl3 X T id r) (lk : typeLookup (.type T) "__getitem__" = pure (some (.builtin id))) (he : PE X e te) (ha : PO X a ta) (hb : PO X b tb) (hc : PO X c tc) (sub : ∀ v w : Value, ∃ ops, subscripted (.Slice a b c p) false v w = operate ops (getItem v w)) :
    PE X (.Subscript e (.Slice a b c p) pos) (fun σ H Q => te σ H fun x H1 => ta σ H1 fun o1 H2 => tb σ H2 fun o2 H3 => tc σ H3 fun o3 H4 => r x o1 o2 o3 H4 Q) := by
  constructor
  intro pins s σ H Q I h
  refine Subscript_ (thn (he.run pins s σ H _ I h) ?_)
  rintro v sa ⟨x, Ha, Ia, rx, qa⟩
  refine wpAny_Slice (thn (ha.run pins sa σ Ha _ Ia qa) ?_)
  rintro v1 sb ⟨o1, Hb, Ib, p1, qb⟩
  refine thn (hb.run pins sb σ Hb _ Ib qb) ?_
  rintro v2 sc ⟨o2, Hc, Ic, p2, qc⟩
  refine thn (hc.run pins sc σ Hc _ Ic qc) ?_
  rintro v3 sd ⟨o3, Hd, Id, p3, qd⟩
  let new : Obj := { cls := .type "slice", data := .fields #[v1, v2, v3] }
  have J : Inv X pins σ Hd { sd with heap := sd.heap.push new } := Id.kept (t' := sd.toks) fun _ _ z => Heap.get?_push_of_some new z
  obtain ⟨ty, go⟩ := sr pins _ σ Hd x v v1 v2 v3 o1 o2 o3 sd.heap.objs.size Q J rx (Heap.IsSliceOf.new sd.heap v1 v2 v3) p1 p2 p3 qd
  obtain ⟨ops, eq⟩ := sub v (.ref sd.heap.objs.size)
  exact tail_any (ops := ops) ty lk go eq
theorem sl3_rev : Sl3 X "tuple" "tuple.__getitem__" (fun x o1 o2 o3 H Q => o1 = none ∧ o2 = none ∧ o3 = some (-1) ∧ ∃ a xs, x = .ref a ∧ SqT X.K H a xs ∧ ∀ p, H p = none → Q (.ref p) (upd H p (.tup xs.reverse))) := by
  rintro pins s σ H x v v1 v2 v3 o1 o2 o3 sl Q I rx at_ p1 p2 p3 ⟨rfl, rfl, rfl, a, xs, rfl, hx, q⟩
  cases rx
  cases p1
  cases p2
  obtain ⟨its, rel, tup, fit⟩ := I.tuple hx
  have len : its.toArray.size ≤ sizeLine := by simpa [← rel.length] using fit
  refine ⟨tup.typeIs, wpAny_getItem_slot tup.typeIs (by decide) PyProof.Rows.slot_tuple_getitem (wpAny_call_entry PyProof.Rows.slot_tuple_getitem tup.typeIs entry_tuple_getitem (rev_body tup at_ p3 len ?_) (args_tuple_getitem _ _))⟩
  have fresh := I.hok.fresh (Nat.le_refl s.heap.objs.size)
  have ok : ObjOk X.prog X.w (upd H s.heap.objs.size (.tup xs.reverse)) (s.heap.push { cls := .type "tuple", data := .seq its.reverse.toArray }) s.heap.objs.size (.tup xs.reverse) :=
    ⟨by simpa using fit, its.reverse, rel.reverse, _, Heap.get?_push_size _ rfl, rfl, _, rfl⟩
  exact ⟨.ref s.heap.objs.size, _, I.laid (t' := s.toks) (fun _ _ z => Heap.get?_push_of_some _ z) (Nat.le_refl _) ok, rfl, q _ fresh⟩
def revR (_ : Sto) (x : R) : Option R := match x with
  | .w (.tup xs) => some (.w (.tup xs.reverse))
  | _ => none
theorem q_rev {e : Expr} {f : Env → M R} {k : Nat} {p1 p2 p3 pos : Pos} (he : QE X E e f) : QE X E (.Subscript e (.Slice none none (some (.UnaryOp .USub (.Constant (.int 1) k p1) p2)) p3) pos) (e1 revR f) := by
  refine (pe_sl3 sl3_rev PyProof.Rows.slot_tuple_getitem.lookup he po_none po_none (po_some (pe_un un_neg pe_int)) fun v w => ⟨[v, w], by with_unfolding_all rfl⟩).imp fun σ H Q hh => ?_
  obtain ⟨Z, μ, st, ρ, c, s, q⟩ := hh
  refine rd_step (f := f) c s q fun r1 st1 μ1 H1 v1 n1 c1 s1 rv1 q1 => ?_
  obtain ⟨r, er, q2⟩ := q1.ofO
  unfold revR at er
  split at er
  · cases er
    obtain ⟨a, us, rfl, sq, rvs⟩ := rv1.tupS
    exact ⟨1, rfl, -1, rfl, rfl, rfl, rfl, a, us, rfl, sq, fun p hp => q2 _ _ (Nx.new hp) (c1.new hp) _ (RR.newTup c1 hp rvs.reverse)⟩
  · cases er
end
end Iv
end
section
set_option Elab.async false
set_option linter.all false
set_option maxRecDepth 100000
set_option maxHeartbeats 4000000
/-! Iv.R18: dicts whose keys are tuples. -/
namespace Iv
open PySem PySem.Spec PyProof.Rows L2

def nkEq (x y : W) : Bool := match nkey x, nkey y with
  | some a, some b => decide (a = b)
  | _, _ => false
def putN (kvs : List (W × W)) (k v : W) : List (W × W) := if kvs.any (fun p => nkEq p.1 k) then kvs.map (fun p => if nkEq p.1 k then (p.1, v) else p) else kvs ++ [(k, v)]
def findN (kvs : List (W × W)) (k : W) : Option W := (kvs.find? fun p => nkEq p.1 k).map (·.2)
def keyOk : W → Bool
  | .tup zs => match nkeys zs with
    | some ks => decide ((NestedKey.tup ks).depth ≤ 8)
    | none => false
  | _ => false
theorem keyOk_some {k : W} (h : keyOk k = true) : ∃ zs ks, k = .tup zs ∧ nkeys zs = some ks ∧ (NestedKey.tup ks).depth ≤ 8 := by
  unfold keyOk at h
  split at h
  · split at h
    · rename_i zs ks e
      exact ⟨_, _, rfl, e, of_decide_eq_true h⟩
    · cases h
  · cases h
section
variable {X : Cx} {F : Addr → Prop} {H : Hp} {pins : List (Addr × Obj)} {σ : L2.St} {s : Shared}
mutual
theorem RV.nested (I : Inv X pins σ H s) : ∀ {x : W} {v : V} {u : Value} {k : NestedKey}, RV X.K X.w F H x v → RelV v u → nkey x = some k → NestedIs s.heap k u
  | _, _, u, _, .non, r, e => by
    cases e
    obtain rfl : u = .none := r
    exact .none
  | _, _, u, _, .bl b, r, e => by
    cases e
    obtain rfl : u = .bool b := r
    exact .bool rfl
  | _, _, _, _, .int i, r, e => by
    cases e
    obtain ⟨t, rfl⟩ := r
    exact .int i t
  | _, _, _, _, .str x, r, e => by
    cases e
    obtain ⟨t, rfl⟩ := r
    exact .text x t
  | _, _, u, _, .tupK (a := a) (us := us) h rs, r, e => by
    obtain ⟨ks, e1, rfl⟩ := Option.map_eq_some_iff.mp (show (nkeys _).map NestedKey.tup = some _ from e)
    obtain rfl : u = .ref a := r
    obtain ⟨its, rv, ⟨o, ho, hc, n, hd⟩, _⟩ := I.tuple (.inr h)
    exact .tup ho hc hd (by simpa using RVs.nested I rs rv e1)
  | _, _, u, _, .tup (a := a) (us := us) h _ rs, r, e => by
    obtain ⟨ks, e1, rfl⟩ := Option.map_eq_some_iff.mp (show (nkeys _).map NestedKey.tup = some _ from e)
    obtain rfl : u = .ref a := r
    obtain ⟨its, rv, ⟨o, ho, hc, n, hd⟩, _⟩ := I.tuple (.inl h)
    exact .tup ho hc hd (by simpa using RVs.nested I rs rv e1)
  | _, _, _, _, .fn _, _, e => by cases e
  | _, _, _, _, .ty _, _, e => by cases e
  | _, _, _, _, .scr _ _, _, e => by cases e
  | _, _, _, _, .lst _ _ _, _, e => by cases e
  | _, _, _, _, .dicK _ _ _, _, e => by cases e
  | _, _, _, _, .dicN _ _ _, _, e => by cases e
  | _, _, _, _, .ins _ _ _, _, e => by cases e
theorem RVs.nested (I : Inv X pins σ H s) : ∀ {xs : List W} {vs : List V} {us : List Value} {ks : List NestedKey}, RVs X.K X.w F H xs vs → Vals vs us → nkeys xs = some ks → NestedAll s.heap ks us
  | _, _, _, _, .nil, r, e => by
    cases e
    cases r
    exact .nil
  | x :: xs, _, _, _, .cons a b, r, e => by
    cases r with
    | cons r rr =>
      cases e1 : nkey x with
      | none => rw [nkeys, e1] at e; cases e
      | some k =>
        cases e2 : nkeys xs with
        | none => rw [nkeys, e1, e2] at e; cases e
        | some ks =>
          rw [nkeys, e1, e2] at e
          cases e
          exact .cons (RV.nested I a r e1) (RVs.nested I b rr e2)
end
/-- the entries, as the kit has them -/
inductive XR (w : World) : List (W × W) → List (Int × V × V) → List (NestedKey × Addr × Value) → Prop
  | nil : XR w [] [] []
  | cons {zs : List W} {ks : List NestedKey} {y : W} {r : List (W × W)} {a : Addr} {v : V} {us : List (Int × V × V)} {u : Value} {xs : List (NestedKey × Addr × Value)} : nkeys zs = some ks → RelV v u → XR w r us xs → XR w ((.tup zs, y) :: r) (((NestedKey.tup ks).hash w, .ref a, v) :: us) ((.tup ks, a, u) :: xs)
theorem XR.length {w : World} : ∀ {kvs : List (W × W)} {ents : List (Int × V × V)} {xs : List (NestedKey × Addr × Value)}, XR w kvs ents xs → kvs.length = ents.length ∧ ents.length = xs.length
  | _, _, _, .nil => ⟨rfl, rfl⟩
  | _, _, _, .cons _ _ r => by obtain ⟨h1, h2⟩ := XR.length r; simp [h1, h2]
theorem dn_xr (P : Program) (I : Inv X pins σ H s) : ∀ {kvs : List (W × W)} {ents : List (Int × V × V)} {es : List DictEntry}, REs X.K X.w F H kvs ents → Paired (fun (e : Int × V × V) (q : DictEntry) => q.hash = e.1 ∧ RelV e.2.1 q.key ∧ RelV e.2.2 q.val) ents es →
    ∃ xs : List (NestedKey × Addr × Value), es = xs.map (entryOfKey (nestedKind P X.w)) ∧ XR X.w kvs ents xs ∧ (∀ x ∈ xs, (nestedKind P X.w).is s.heap x.1 x.2.1) ∧ (xs.map (·.1)).Nodup ∧ ∀ x ∈ xs, ∃ q ∈ kvs, nkey q.1 = some x.1
  | _, _, _, .nil, .nil => ⟨[], rfl, .nil, by simp, by simp, by simp⟩
  | _, _, _, .cons (xs := zs) (ks := ks) (y := y) (r := r) (a := a) (v := v) e1 e2 e3 rk rv rr, .cons (b := q) ⟨h1, h2, h3⟩ t => by
    obtain ⟨xs, ex, xr, hi, hn, hk⟩ := dn_xr P I rr t
    have ka : q.key = .ref a := h2
    have nk : nkey (.tup zs) = some (.tup ks) := by show (nkeys zs).map NestedKey.tup = _; rw [e1]; rfl
    refine ⟨(.tup ks, a, q.val) :: xs, ?_, .cons e1 h3 xr, fun x hx => ?_, ?_, fun x hx => ?_⟩
    · rw [List.map_cons, ← ex]
      congr 1
      obtain ⟨qh, qk, qv⟩ := q
      cases ka
      cases h1
      rfl
    · rcases List.mem_cons.mp hx with e | e
      · subst e
        exact ⟨RV.nested I rk rfl nk, e2⟩
      · exact hi x e
    · rw [List.map_cons, List.nodup_cons]
      refine ⟨fun hm => ?_, hn⟩
      obtain ⟨x, hx, ex⟩ := List.mem_map.mp hm
      obtain ⟨p, hp, ep⟩ := hk x hx
      exact e3 p hp (by rw [ep, ex])
    · rcases List.mem_cons.mp hx with e | e
      · subst e
        exact ⟨_, List.mem_cons_self, nk⟩
      · obtain ⟨p, hp, ep⟩ := hk x e
        exact ⟨p, List.mem_cons_of_mem _ hp, ep⟩
theorem dn_at (I : Inv X pins σ H s) {a : Addr} {ents : List (Int × V × V)} (h : Rd H a (.ext (DN a ents))) : DN a ents s.heap := by
  rcases h with h | ⟨o, h⟩
  · exact (I.hok a _ h).1
  · have := I.hok a _ h
    exact this.2.1

/-! ### looked up, stored -/
theorem nkEq_tup {zs : List W} {ks : List NestedKey} (e : nkeys zs = some ks) (k : W) {kk : NestedKey} (ek : nkey k = some kk) : nkEq (.tup zs) k = decide (NestedKey.tup ks = kk) := by
  unfold nkEq
  rw [show nkey (.tup zs) = some (.tup ks) by show (nkeys zs).map NestedKey.tup = _; rw [e]; rfl, ek]
theorem XR.any {w : World} {k : W} {kk : NestedKey} (ek : nkey k = some kk) : ∀ {kvs : List (W × W)} {ents : List (Int × V × V)} {xs : List (NestedKey × Addr × Value)}, XR w kvs ents xs → kvs.any (fun p => nkEq p.1 k) = (atKey xs kk).isSome
  | _, _, _, .nil => rfl
  | _, _, _, .cons (zs := zs) (ks := ks) (a := a) (u := u) (xs := xs) e r t => by
    rw [List.any_cons, XR.any ek t]
    show (nkEq (.tup zs) k || _) = _
    rw [nkEq_tup e k ek]
    unfold atKey
    rw [List.find?_cons]
    cases h : decide (NestedKey.tup ks = kk) <;> simp [h]
theorem REs.inv {K : PySem.W.Frag} {w : World} {F : Addr → Prop} {H : Hp} {p : W × W} {r : List (W × W)} {e : Int × V × V} {us : List (Int × V × V)} (h : REs K w F H (p :: r) (e :: us)) : ∃ zs ks a, p.1 = .tup zs ∧ e.2.1 = .ref a ∧ e.1 = (NestedKey.tup ks).hash w ∧ nkeys zs = some ks ∧ (NestedKey.tup ks).depth ≤ 8 ∧ (∀ q ∈ r, nkey q.1 ≠ some (.tup ks)) ∧ RV K w F H (.tup zs) (.ref a) ∧ RV K w F H p.2 e.2.2 ∧ REs K w F H r us := by
  cases h with
  | cons e1 e2 e3 a b c => exact ⟨_, _, _, rfl, rfl, rfl, e1, e2, e3, a, b, c⟩
theorem REs.inv' {K : PySem.W.Frag} {w : World} {F : Addr → Prop} {H : Hp} {zs : List W} {ks : List NestedKey} {y : W} {r : List (W × W)} {n : Int} {a : Addr} {v : V} {us : List (Int × V × V)} (e : nkeys zs = some ks) (h : REs K w F H ((.tup zs, y) :: r) ((n, .ref a, v) :: us)) : (NestedKey.tup ks).depth ≤ 8 ∧ (∀ q ∈ r, nkey q.1 ≠ some (.tup ks)) ∧ RV K w F H (.tup zs) (.ref a) ∧ RV K w F H y v ∧ REs K w F H r us := by
  obtain ⟨z', k', a', h1, h2, h3, h4, h5, h6, h7, h8, h9⟩ := h.inv
  cases h1
  cases h2
  rw [e] at h4
  cases h4
  exact ⟨h5, h6, h7, h8, h9⟩
theorem XR.find {K : PySem.W.Frag} {w : World} {F : Addr → Prop} {H : Hp} {k : W} {kk : NestedKey} (ek : nkey k = some kk) : ∀ {kvs : List (W × W)} {ents : List (Int × V × V)} {xs : List (NestedKey × Addr × Value)}, XR w kvs ents xs → REs K w F H kvs ents → ∀ {y : W}, findN kvs k = some y → ∃ b u v, atKey xs kk = some (b, u) ∧ RelV v u ∧ RV K w F H y v
  | _, _, _, .nil, _, _, h => by cases h
  | _, _, _, .cons (zs := zs) (ks := ks) (a := a) (u := u) (xs := xs) (r := r) e rl t, rs, y, h => by
    obtain ⟨e2, e3, rk, rv, rr⟩ := rs.inv' e
    · unfold findN at h
      rw [List.find?_cons] at h
      simp only [nkEq_tup e k ek] at h
      unfold atKey
      rw [List.find?_cons]
      cases hd : decide (NestedKey.tup ks = kk) with
      | true =>
        rw [hd] at h
        cases h
        refine ⟨a, u, _, ?_, rl, rv⟩
        simp only [hd]
        rfl
      | false =>
        rw [hd] at h
        obtain ⟨b, u', v', e4, e5, e6⟩ := XR.find ek t rr (y := y) h
        refine ⟨b, u', v', ?_, e5, e6⟩
        simp only [hd]
        exact e4
theorem XR.repl {K : PySem.W.Frag} {w : World} {F : Addr → Prop} {H : Hp} {k x : W} {kk : NestedKey} {v : V} {u : Value} (ek : nkey k = some kk) (rv : RV K w F H x v) (rl : RelV v u) : ∀ {kvs : List (W × W)} {ents : List (Int × V × V)} {xs : List (NestedKey × Addr × Value)}, XR w kvs ents xs → REs K w F H kvs ents →
    ∃ ents', XR w (kvs.map fun p => if nkEq p.1 k then (p.1, x) else p) ents' (xs.map (putAt kk u)) ∧ REs K w F H (kvs.map fun p => if nkEq p.1 k then (p.1, x) else p) ents'
  | _, _, _, .nil, _ => ⟨[], .nil, .nil⟩
  | _, _, _, .cons (zs := zs) (ks := ks) (y := y) (a := a) (u := u0) (v := v0) (xs := xs) (r := r) e rl0 t, rs => by
    obtain ⟨e2, e3, rk, rv0, rr⟩ := rs.inv' e
    · obtain ⟨ents', h1, h2⟩ := XR.repl ek rv rl t rr
      have nd : ∀ q ∈ r.map (fun p => if nkEq p.1 k then (p.1, x) else p), nkey q.1 ≠ some (.tup ks) := fun q hq => by
        obtain ⟨q0, hq0, rfl⟩ := List.mem_map.mp hq
        have : (if nkEq q0.1 k = true then (q0.1, x) else q0).1 = q0.1 := by split <;> rfl
        rw [this]
        exact e3 q0 hq0
      rw [List.map_cons, List.map_cons]
      simp only [nkEq_tup e k ek]
      unfold putAt
      by_cases hd : NestedKey.tup ks = kk
      · rw [if_pos (decide_eq_true hd), if_pos hd]
        exact ⟨_, .cons e rl h1, .cons e e2 nd rk rv h2⟩
      · rw [if_neg (by simpa using hd), if_neg hd]
        exact ⟨_, .cons e rl0 h1, .cons e e2 nd rk rv0 h2⟩
theorem XR.append {K : PySem.W.Frag} {w : World} {F : Addr → Prop} {H : Hp} {zs : List W} {ks : List NestedKey} {x : W} {b : Addr} {v : V} {u : Value} (ez : nkeys zs = some ks) (dz : (NestedKey.tup ks).depth ≤ 8) (rk : RV K w F H (.tup zs) (.ref b)) (rv : RV K w F H x v) (rl : RelV v u) : ∀ {kvs : List (W × W)} {ents : List (Int × V × V)} {xs : List (NestedKey × Addr × Value)}, XR w kvs ents xs → REs K w F H kvs ents → (∀ q ∈ kvs, nkey q.1 ≠ some (.tup ks)) →
    ∃ ents', XR w (kvs ++ [(.tup zs, x)]) ents' (xs ++ [(.tup ks, b, u)]) ∧ REs K w F H (kvs ++ [(.tup zs, x)]) ents'
  | _, _, _, .nil, _, _ => ⟨_, .cons ez rl .nil, .cons ez dz (by simp) rk rv .nil⟩
  | _, _, _, .cons (zs := z0) (ks := k0) (y := y) (xs := xs) (r := r) e rl0 t, rs, hn => by
    obtain ⟨e2, e3, rk0, rv0, rr⟩ := rs.inv' e
    · obtain ⟨ents', h1, h2⟩ := XR.append ez dz rk rv rl t rr fun q hq => hn q (List.mem_cons_of_mem _ hq)
      refine ⟨_, .cons e rl0 h1, .cons e e2 (fun q hq => ?_) rk0 rv0 h2⟩
      rcases List.mem_append.mp hq with z | z
      · exact e3 q z
      · have e' : q = (.tup zs, x) := by simpa using z
        subst e'
        intro h
        have h3 : nkey (.tup zs) = some (.tup ks) := by show (nkeys zs).map NestedKey.tup = _; rw [ez]; rfl
        rw [h3] at h
        refine hn (.tup z0, y) List.mem_cons_self ?_
        show (nkeys z0).map NestedKey.tup = _
        rw [e]
        exact h.symm
theorem XR.put {K : PySem.W.Frag} {w : World} {F : Addr → Prop} {H : Hp} {zs : List W} {ks : List NestedKey} {x : W} {b : Addr} {v : V} {u : Value} (ez : nkeys zs = some ks) (dz : (NestedKey.tup ks).depth ≤ 8) (rk : RV K w F H (.tup zs) (.ref b)) (rv : RV K w F H x v) (rl : RelV v u) {kvs : List (W × W)} {ents : List (Int × V × V)} {xs : List (NestedKey × Addr × Value)} (xr : XR w kvs ents xs) (rs : REs K w F H kvs ents) :
    ∃ ents', XR w (putN kvs (.tup zs) x) ents' (storedH xs (.tup ks) b u) ∧ REs K w F H (putN kvs (.tup zs) x) ents' := by
  have ek : nkey (.tup zs) = some (.tup ks) := by show (nkeys zs).map NestedKey.tup = _; rw [ez]; rfl
  unfold putN storedH
  rw [xr.any ek]
  by_cases h : (atKey xs (NestedKey.tup ks)).isSome = true
  · rw [if_pos h, if_pos h]
    exact xr.repl ek rv rl rs
  · rw [if_neg h, if_neg h]
    refine xr.append ez dz rk rv rl rs fun q hq hk => h ?_
    rw [← xr.any ek, List.any_eq_true]
    exact ⟨q, hq, by unfold nkEq; rw [hk, ek]; simp⟩
theorem XR.paired {P : Program} {w : World} : ∀ {kvs : List (W × W)} {ents : List (Int × V × V)} {xs : List (NestedKey × Addr × Value)}, XR w kvs ents xs → Paired (fun (e : Int × V × V) (q : DictEntry) => q.hash = e.1 ∧ RelV e.2.1 q.key ∧ RelV e.2.2 q.val) ents (xs.map (entryOfKey (nestedKind P w)))
  | _, _, _, .nil => .nil
  | _, _, _, .cons _ r t => .cons ⟨rfl, rfl, r⟩ (XR.paired t)
/-- as the kit has it -/
theorem dn_dict (I : Inv X pins σ H s) {a : Addr} {kvs : List (W × W)} {ents : List (Int × V × V)} (h : Rd H a (.ext (DN a ents))) (rs : REs X.K X.w F H kvs ents) : (a == sysModules) = false ∧ ents.length ≤ sizeLine ∧ ∃ xs, s.heap.DictOfH (nestedKind X.prog X.w) a xs ∧ XR X.w kvs ents xs := by
  obtain ⟨h1, h2, o, es, ep, ho, hc, hd, pr⟩ := dn_at I h
  obtain ⟨xs, ex, xr, hi, hn, _⟩ := dn_xr X.prog I rs pr
  exact ⟨h1, h2, xs, ⟨o, es, ep, ho, hc, hd, ex, hi, hn⟩, xr⟩
theorem dn_ok {P : Program} {w : World} {H' : Hp} {h' : Heap} {a : Addr} {kvs : List (W × W)} {ents : List (Int × V × V)} {xs : List (NestedKey × Addr × Value)} (h1 : (a == sysModules) = false) (h2 : ents.length ≤ sizeLine) (xr : XR w kvs ents xs) (hx : h'.DictOfH (nestedKind P w) a xs) : ObjOk P w H' h' a (.ext (DN a ents)) := by
  obtain ⟨o, es, ep, ho, hc, hd, he, _, _⟩ := hx
  refine ⟨⟨h1, h2, o, es, ep, ho, hc, hd, ?_⟩, ⟨o, ho⟩, fun k1 k2 hk hk2 => ?_⟩
  · rw [he]; exact xr.paired
  · obtain ⟨g1, g2, o', es', ep', ho', hc', hd', pr'⟩ := hk
    exact ⟨g1, g2, o', es', ep', hk2 o' ho', hc', hd', pr'⟩
theorem room_units {A : Around} (hu : A.units + 9 < cLine) : (nestedKind X.prog X.w).room A.in1 := by
  show A.in1.units + 8 < cLine
  have : A.in1.units = A.units + 1 := rfl
  omega

/-! ### d[k] = v, d[k], k in d, len(d) -/
/-- d[k] = v -/
def setN (st : Sto) (o i v : R) : Option Sto := match o, i, v with
  | .loc n, .w k, .w x => match st[n]? with
    | some (.dic true kvs) => if keyOk k && fits (kvs.length + 1) then some (st.set n (.dic true (putN kvs k x))) else none
    | _ => none
  | _, _, _ => none
theorem RR.keyS {K : PySem.W.Frag} {w : World} {F : Addr → Prop} {μ : List Addr} {H : Hp} {zs : List W} {v : V} (h : RR K w F μ H (.w (.tup zs)) v) : ∃ b, v = .ref b ∧ RV K w F H (.tup zs) (.ref b) := by
  cases h with
  | w h =>
    obtain ⟨a, us, rfl, _⟩ := h.tupS
    exact ⟨a, rfl, h⟩
theorem putN_len (kvs : List (W × W)) (k v : W) : (putN kvs k v).length ≤ kvs.length + 1 := by
  unfold putN
  split <;> simp
theorem set_keyed (hu : X.A.units + 9 < cLine) : PSet X (rdSet X.K X.w setN) := by
  intro pins s σ H o i v ov iv u Q I ro ri rv h
  obtain ⟨Z, μ, st, r1, r2, r3, st', c, h1, h2, h3, e, q⟩ := h
  unfold setN at e
  split at e
  · rename_i n k x
    cases es : st[n]? with
    | none => rw [es] at e; cases e
    | some ce =>
      rw [es] at e
      split at e
      · rename_i kvs hce
        cases hce
        obtain ⟨hf, e⟩ := ite_some e
        cases e
        obtain ⟨f1, f2⟩ := Bool.and_eq_true_iff.mp hf
        obtain ⟨zs, ks, rfl, ez, dz⟩ := keyOk_some f1
        obtain ⟨b, rfl, rk⟩ := h2.keyS
        have hx : RV X.K X.w (Fb Z μ) H x v := by
          cases h3 with
          | w h => exact h
        cases h1 with
        | @loc _ a hμ =>
          cases c.ok n _ _ es hμ with
          | dicN ha rs =>
            cases ro
            cases ri
            obtain ⟨g1, g2, xs, hd, xr⟩ := dn_dict I (.inl ha) rs
            obtain ⟨ents', xr', rs'⟩ := xr.put ez dz rk hx rv rs
            have hl := xr.length
            have hl' := xr'.length
            have hp := putN_len kvs (.tup zs) x
            have hff := of_decide_eq_true f2
            have ek : nkey (.tup zs) = some (.tup ks) := by show (nkeys zs).map NestedKey.tup = _; rw [ez]; rfl
            refine wpAny_setItem_heap (knd := nestedKind X.prog X.w) (hsz := by rw [sizeLine_eq]; omega) (room_units hu) ⟨RV.nested I rk rfl ek, dz⟩ hd fun h' hm' hs => ?_
            refine ⟨upd H a (.ext (DN a ents')), d_write I (by rw [ha]; exact True.intro) hs (let ⟨o, _, _, ho, _⟩ := hm'; ⟨o, ho⟩) (dn_ok g1 (by rw [sizeLine_eq]; omega) xr' hm'), ?_⟩
            exact q _ (Nx.write hμ) (c.write hμ (.dicN upd_same (rs'.nx (Nx.write hμ))))
      · cases e
  · cases e
end
end Iv
end
section
set_option Elab.async false
set_option linter.all false
set_option maxRecDepth 100000
set_option maxHeartbeats 4000000
/-! Iv.R19: dicts whose keys are tuples: looked up, made. -/
namespace Iv
open PySem PySem.Spec PyProof.Rows L2

/-- k in d -/
def inN (st : Sto) (x y : R) : Option Bool := match x with
  | .w k => match ndictOf st y with
    | some kvs => if keyOk k then some (kvs.any fun p => nkEq p.1 k) else none
    | none => none
  | _ => none
def inR2 (st : Sto) (x y : R) : Option R := match inN st x y with
  | some b => some (.w (.bl b))
  | none => inR st x y
def ninR2 (st : Sto) (x y : R) : Option R := match inN st x y with
  | some b => some (.w (.bl (!b)))
  | none => ninR st x y
/-- d[k] -/
def ixN' (st : Sto) (x y : R) : Option R := match y with
  | .w k => match ndictOf st x with
    | some kvs => if keyOk k then (findN kvs k).map .w else none
    | none => none
  | _ => none
def ixR2 (st : Sto) (x y : R) : Option R := match ixN' st x y with
  | some r => some r
  | none => ixR st x y
def lenR2 (st : Sto) (xs : List R) : Option R := match xs with
  | [x] => match ndictOf st x with
    | some kvs => some (.w (.int kvs.length))
    | none => lenR st xs
  | _ => none
def setR2 (st : Sto) (o i v : R) : Option Sto := match setN st o i v with
  | some st' => some st'
  | none => setR st o i v
section
variable {X : Cx} {E : WX} {F : Addr → Prop} {H : Hp} {pins : List (Addr × Obj)} {σ : L2.St} {s : Shared}
theorem in_core {x y : V} {v u : Value} {r1 r2 : R} {b : Bool} {Z : Addr → Prop} {μ : List Addr} {st : Sto} (I : Inv X pins σ H s) (rx : RelV x v) (ry : RelV y u) (c : Cells X.K X.w Z μ st H) (h1 : RR X.K X.w (Fb Z μ) μ H r1 x) (h2 : RR X.K X.w (Fb Z μ) μ H r2 y) (e : inN st r1 r2 = some b) :
    ∃ a d k xs, v = .ref a ∧ u = .ref d ∧ (d == sysModules) = false ∧ (nestedKind X.prog X.w).is s.heap k a ∧ s.heap.DictOfH (nestedKind X.prog X.w) d xs ∧ (atKey xs k).isSome = b := by
  unfold inN at e
  split at e
  · rename_i kw
    cases en : ndictOf st r2 with
    | none => rw [en] at e; cases e
    | some kvs =>
      rw [en] at e
      obtain ⟨hk, e⟩ := ite_some e
      obtain ⟨zs, ks, rfl, ez, dz⟩ := keyOk_some hk
      obtain ⟨a, rfl, rk⟩ := h1.keyS
      obtain ⟨d, ents, rfl, hd, rs⟩ := h2.ndictS c en
      cases rx
      cases ry
      obtain ⟨g1, g2, xs, hdd, xr⟩ := dn_dict I hd rs
      have ek : nkey (.tup zs) = some (.tup ks) := by show (nkeys zs).map NestedKey.tup = _; rw [ez]; rfl
      exact ⟨a, d, .tup ks, xs, rfl, rfl, g1, ⟨RV.nested I rk rfl ek, dz⟩, hdd, by rw [← xr.any ek]; exact e⟩
  · cases e
theorem oq_in2 (hu : X.A.units + 65 < cLine) : OpQ X (compareOp .In) inR2 := by
  intro pins s σ H x y v u Q I rx ry h
  obtain ⟨Z, μ, st, r1, r2, r, c, h1, h2, e, q⟩ := h
  unfold inR2 at e
  cases en : inN st r1 r2 with
  | none =>
    rw [en] at e
    exact oq_in hu pins s σ H x y v u Q I rx ry ⟨Z, μ, st, r1, r2, r, c, h1, h2, e, q⟩
  | some b =>
    rw [en] at e
    cases e
    obtain ⟨a, d, k, xs, rfl, rfl, g1, hk, hd, eb⟩ := in_core I rx ry c h1 h2 en
    refine wpAny_in_heap (room_units (by omega)) hk g1 hd ?_
    exact ⟨.bl b, H, I.tok _, by rw [eb]; rfl, q _ _ (Nx.refl _ _) c (.w (.bl b))⟩
theorem oq_nin2 (hu : X.A.units + 65 < cLine) : OpQ X (compareOp .NotIn) ninR2 := by
  intro pins s σ H x y v u Q I rx ry h
  obtain ⟨Z, μ, st, r1, r2, r, c, h1, h2, e, q⟩ := h
  unfold ninR2 at e
  cases en : inN st r1 r2 with
  | none =>
    rw [en] at e
    exact oq_nin hu pins s σ H x y v u Q I rx ry ⟨Z, μ, st, r1, r2, r, c, h1, h2, e, q⟩
  | some b =>
    rw [en] at e
    cases e
    obtain ⟨a, d, k, xs, rfl, rfl, g1, hk, hd, eb⟩ := in_core I rx ry c h1 h2 en
    show wpAny _ _ ((do return Value.bool (!(← contains (.ref d) (.ref a)))) : Sem Value) _ _ s
    refine wpAny_bind (wpAny_contains_heap (room_units (by omega)) hk g1 hd (wpAny_pure ?_))
    exact ⟨.bl (!b), H, I.tok _, by rw [eb]; rfl, q _ _ (Nx.refl _ _) c (.w (.bl (!b)))⟩
theorem iq_ix2 (hu : X.A.units + 65 < cLine) : IxR X (rdO X.K X.w ixR2) := by
  intro value slice pins s σ H x y v u Q I rx ry h hs
  obtain ⟨Z, μ, st, r1, r2, r, c, h1, h2, e, q⟩ := h
  unfold ixR2 at e
  cases en : ixN' st r1 r2 with
  | none =>
    rw [en] at e
    exact iq_ix (by omega) value slice pins s σ H x y v u Q I rx ry ⟨Z, μ, st, r1, r2, r, c, h1, h2, e, q⟩ hs
  | some r' =>
    rw [en] at e
    cases e
    unfold ixN' at en
    split at en
    · rename_i kw
      cases ed : ndictOf st r1 with
      | none => rw [ed] at en; cases en
      | some kvs =>
        rw [ed] at en
        obtain ⟨hk, en⟩ := ite_some' en
        obtain ⟨y', ey, rfl⟩ := Option.map_eq_some_iff.mp en
        obtain ⟨zs, ks, rfl, ez, dz⟩ := keyOk_some hk
        obtain ⟨a, rfl, rk⟩ := h2.keyS
        obtain ⟨d, ents, rfl, hd, rs⟩ := h1.ndictS c ed
        cases rx
        cases ry
        obtain ⟨g1, g2, xs, hdd, xr⟩ := dn_dict I hd rs
        have ek : nkey (.tup zs) = some (.tup ks) := by show (nkeys zs).map NestedKey.tup = _; rw [ez]; rfl
        obtain ⟨b, u', v', e4, e5, e6⟩ := xr.find ek rs ey
        exact tail_any hdd.typeIs PySem.F.slot_dict_getitem.lookup (wpAny_getItem_heap (room_units (by omega)) ⟨RV.nested I rk rfl ek, dz⟩ hdd e4 ⟨v', H, I.tok _, e5, q _ _ (Nx.refl _ _) c (.w e6)⟩) hs
    · cases en
theorem q_ix2 {a b : Expr} {fa fb : Env → M R} {pos : Pos} (hu : X.A.units + 65 < cLine) (ha : QE X E a fa) (hb : QE X E b fb) (hs : PlainIx b := by exact fun _ _ => rfl) : QE X E (.Subscript a b pos) (e2 ixR2 fa fb) :=
  (pe_ix (iq_ix2 hu) ha hb hs).imp fun _ _ _ h => op_read h
theorem sq_set2 (hu : X.A.units + 65 < cLine) : PSet X (rdSet X.K X.w setR2) := by
  refine PSet.imp (PSet.or (set_keyed (X := X) (by omega)) (sq_set (X := X) (by omega))) fun o i v H Q h => ?_
  obtain ⟨Z, μ, st, r1, r2, r3, st', c, h1, h2, h3, e, q⟩ := h
  unfold setR2 at e
  cases en : setN st r1 r2 r3 with
  | some s1 =>
    rw [en] at e
    cases e
    exact .inl ⟨Z, μ, st, r1, r2, r3, _, c, h1, h2, h3, en, q⟩
  | none =>
    rw [en] at e
    exact .inr ⟨Z, μ, st, r1, r2, r3, st', c, h1, h2, h3, e, q⟩
/-- {} for tuple keys -/
def eDicN : Env → M R := fun _ => newC (.dic true [])
theorem dn_empty {P : Program} {w : World} {H : Hp} (h : Heap) (hb : sysModules < h.objs.size) : ObjOk P w H (h.push { cls := .type "dict", data := .dict #[] }) h.objs.size (.ext (DN h.objs.size [])) := by
  refine ⟨⟨beq_eq_false_iff_ne.mpr (Ne.symm (Nat.ne_of_lt hb)), Nat.zero_le _, _, #[], 0, Heap.get?_push_size _ rfl, ⟨rfl, rfl, rfl⟩, rfl, .nil⟩, ⟨_, Heap.get?_push_size _ rfl⟩, fun k1 k2 hk hk2 => ?_⟩
  obtain ⟨g1, g2, o', es', ep', ho', hc', hd', pr'⟩ := hk
  exact ⟨g1, g2, o', es', ep', hk2 o' ho', hc', hd', pr'⟩
theorem q_dicN {pos : Pos} : QE X E (.Dict [] [] pos) eDicN := by
  have h0 : PE X (.Dict [] [] pos) (fun _ H Q => ∀ p, H p = none → Q (.ref p) (upd H p (.ext (DN p [])))) := ⟨fun pins s σ H Q I h =>
    wpAny_Dict_empty ⟨.ref s.heap.objs.size, _, I.laid (a := s.heap.objs.size) (o := .ext (DN s.heap.objs.size [])) (t' := s.toks) (fun _ _ q => Heap.get?_push_of_some _ q) (Nat.le_refl _) (dn_empty s.heap I.big), rfl, h _ (I.hok.fresh (Nat.le_refl _))⟩⟩
  refine h0.imp fun σ H Q ⟨Z, μ, st, ρ, c, s, q⟩ p hp => ?_
  have q : Sat X.K X.w E Z μ H σ (newC (.dic true []) st) _ := q
  exact q.newC c hp (.dicN upd_same .nil) _ (.loc (RR.newLoc c))
end
end Iv
end
section
set_option Elab.async false
set_option linter.all false
set_option maxRecDepth 100000
set_option maxHeartbeats 4000000
/-! Iv.R20: {x: True for x in t}, t a tuple of tuples: own proof, by KE.GoesComp's rule. -/
namespace Iv
open PySem PySem.Spec PyProof.Rows L2

theorem storedH_mem {xs : List (NestedKey × Addr × Value)} {k : NestedKey} {b : Addr} {u : Value} {x : NestedKey × Addr × Value} (h : x ∈ storedH xs k b u) : (∃ y ∈ xs, y.1 = x.1 ∧ y.2.1 = x.2.1) ∨ (x.1 = k ∧ x.2.1 = b) := by
  unfold storedH at h
  split at h
  · obtain ⟨y, hy, rfl⟩ := List.mem_map.mp h
    refine .inl ⟨y, hy, ?_⟩
    unfold putAt
    split <;> exact ⟨rfl, rfl⟩
  · rcases List.mem_append.mp h with z | z
    · exact .inl ⟨x, z, rfl, rfl⟩
    · obtain rfl : x = (k, b, u) := by simpa using z
      exact .inr ⟨rfl, rfl⟩
/-- the dict so far, in the heap h: its keys are known where the walk began -/
structure DcAt (P : Program) (w : World) (h0 : Heap) (D : Addr) (xs : List (NestedKey × Addr × Value)) (h : Heap) : Prop where
  obj : ∃ o es ep, h.get? D = some o ∧ o.ExactDict ∧ o.data = .dict es ep ∧ es.toList = xs.map (entryOfKey (nestedKind P w))
  keys : ∀ x ∈ xs, (nestedKind P w).is h0 x.1 x.2.1
  nd : (xs.map (·.1)).Nodup
section
variable {P : Program} {w : World} {h0 h : Heap} {D : Addr} {xs : List (NestedKey × Addr × Value)}
theorem is_kept {k : NestedKey} {a : Addr} (kept : ∀ b o, h0.get? b = some o → h.get? b = some o) (z : (nestedKind P w).is h0 k a) : (nestedKind P w).is h k a := nestedKind_stays.stays (fun b o _ _ e _ => kept b o e) z
theorem DcAt.dict (z : DcAt P w h0 D xs h) (kept : ∀ b o, h0.get? b = some o → h.get? b = some o) : h.DictOfH (nestedKind P w) D xs := by
  obtain ⟨o, es, ep, e1, e2, e3, e4⟩ := z.obj
  exact ⟨o, es, ep, e1, e2, e3, e4, fun x hx => is_kept kept (z.keys x hx), z.nd⟩
theorem DcAt.keep {h' : Heap} (z : DcAt P w h0 D xs h) (same : ∀ o, h.get? D = some o → h'.get? D = some o) : DcAt P w h0 D xs h' := by
  obtain ⟨o, es, ep, e1, e2, e3, e4⟩ := z.obj
  exact ⟨⟨o, es, ep, same o e1, e2, e3, e4⟩, z.keys, z.nd⟩
/-- a pair is put in -/
theorem dc_put {A : Around} {E : Value → Shared → Prop} {s : Shared} {k : NestedKey} {b : Addr} {u : Value} {Q : Unit → Shared → Prop} (room : (nestedKind P w).room A) (z : DcAt P w h0 D xs s.heap) (kept : ∀ b o, h0.get? b = some o → s.heap.get? b = some o) (is : (nestedKind P w).is h0 k b) (fit : xs.length ≤ sizeLine)
    (fin : ∀ h' tk, DcAt P w h0 D (storedH xs k b u) h' → Heap.SameBut D s.heap h' → Q () { s with heap := h', toks := tk }) : wpAny (model P w) A (dictSet D (.ref b) u) Q E s := by
  unfold dictSet
  refine wpAny_holding (wpAny_bind ((nestedKind P w).pyHash room (is_kept kept is) ?_))
  refine wpAny_dictSetHashed_heap (s := { s with toks := s.toks + (nestedKind P w).draws k }) room (is_kept kept is) (z.dict kept) (fun h' dd same => fin h' _ ?_ same) fit
  obtain ⟨o, es, ep, e1, e2, e3, e4, _, e6⟩ := dd
  refine ⟨⟨o, es, ep, e1, e2, e3, e4⟩, fun x hx => ?_, e6⟩
  rcases storedH_mem hx with ⟨y, hy, ea, eb⟩ | ⟨ea, eb⟩
  · rw [← ea, ← eb]; exact z.keys y hy
  · rw [ea, eb]; exact is
end

/-! ### the comprehension -/
def dcAll (b : Bool) (zs : List W) : List (W × W) := zs.foldl (fun acc k => putN acc k (.bl b)) []
theorem dcAll_take {b : Bool} {zs : List W} {i : Nat} {z : W} (h : zs[i]? = some z) : dcAll b (zs.take (i + 1)) = putN (dcAll b (zs.take i)) z (.bl b) := by
  unfold dcAll
  rw [List.take_add_one, h, List.foldl_append]
  rfl
theorem dcAll_len (b : Bool) (zs : List W) (i : Nat) : (dcAll b (zs.take i)).length ≤ i := by
  induction i with
  | zero => simp [dcAll]
  | succ i ih =>
    cases h : zs[i]? with
    | none =>
      have hl := List.getElem?_eq_none_iff.mp h
      rw [List.take_of_length_le (by omega)]
      rw [List.take_of_length_le hl] at ih
      omega
    | some z =>
      rw [dcAll_take h]
      have := putN_len (dcAll b (zs.take i)) z (.bl b)
      omega
section
variable {X : Cx} {E : WX}
theorem pe_dcT {x : Str} {b : Bool} {it : Expr} {te : TE} {scope : Scope} {j : Nat} {p0 p1 p2 pos : Pos} (calm : X.calm = true) (hu : X.A.units + 9 < cLine) (hit : PE X it te) (hfree : ∀ y ∈ scope.names, y.2 ≠ .free) (hcell : ∀ y ∈ scope.names, y.2 ≠ .cell) (hkind : scope.kind = .function)
    (hnames : ∀ y ∈ scope.names, y.2 = .local → scope.names.lookup y.1 = some .local) (hx : ∀ C, (compEnvC scope [] C X.env).kindOf x = some .local) (hfun : ∀ C, (compEnvC scope [] C X.env).scope.kind = .function) (hd : (x == ("__debug__" : Str)) = false) (hs : ∀ v, foldedSetIterable it X.env v = pure v) :
    PE X (.DictComp (.Name x p1) (.Constant (.bool b) j p2) [⟨.Name x p0, it, [], 0⟩] scope pos) (fun σ H Q => te σ H fun v H1 => ∃ a us zs F, v = .ref a ∧ SqT X.K H1 a us ∧ RVs X.K X.w F H1 zs us ∧ zs.all keyOk = true ∧ zs.length ≤ 1000000 ∧
      ∀ D ents, H1 D = none → REs X.K X.w F H1 (dcAll b zs) ents → Q (.ref D) (upd H1 D (.ext (DN D ents)))) := by
  refine ⟨fun pins s σ H Q I h => DictComp_goes (closureFor_none hfree) hcell hkind hnames (thn (hit.run pins s σ H _ I h) ?_) hs⟩
  rintro v s1 ⟨_, H1, J, rx, a, us, zs, F, rfl, sq, rvs, keys, few, q⟩
  cases rx
  obtain ⟨vals, rel, tup, _⟩ := J.tuple sq
  have tup' : s1.heap.IsTuple a vals.toArray := tup
  have ha : a < s1.heap.objs.size := let ⟨_, z, _⟩ := tup'; Heap.lt_size z
  refine wpAny_pyIter_tuple tup' ?_
  let n := s1.heap.objs.size
  let io : Obj := { cls := .type "tuple_iterator", data := .fields #[.ref a, .int 0 0] }
  have up : ∀ c o, s1.heap.get? c = some o → (s1.heap.push io).get? c = some o := fun c o z => Heap.get?_push_of_some io z
  have sz : (s1.heap.push io).objs.size = n + 1 := Heap.size_push s1.heap io
  refine ⟨n, [n, a], [n], vals.toArray.size, _, _, rfl, Goes.tuple (J.ok.hd calm) n a (Nat.ne_of_lt ha) vals.toArray, ⟨⟨io, Heap.get?_push_size _ rfl, rfl, rfl⟩, tup'.at fun o z => up a o z⟩, ?_⟩
  rintro D C s3 ⟨⟨h3, tk3, rfl⟩, old, newD, newC, ne, names⟩ isD
  have hD : n < D := Nat.lt_of_lt_of_le (Nat.lt_succ_self n) (Nat.le_trans (Nat.le_of_eq sz.symm) newD)
  have hC : n < C := Nat.lt_of_lt_of_le (Nat.lt_succ_self n) (Nat.le_trans (Nat.le_of_eq sz.symm) newC)
  refine ⟨fun i st => ∃ hh tk m ents xs, st = { s1 with heap := hh, toks := tk } ∧ (∀ c o, s1.heap.get? c = some o → hh.get? c = some o) ∧ hh.Ns C m ∧ XR X.w (dcAll b (zs.take i)) ents xs ∧ REs X.K X.w F H1 (dcAll b (zs.take i)) ents ∧ DcAt X.prog X.w s1.heap D xs hh, ?_, ?_, ?_, ?_⟩
  · exact ⟨h3, tk3, _, [], [], rfl, fun c o z => old c o (up c o z), names, .nil, .nil, ⟨_, #[], 0, isD, ⟨rfl, rfl, rfl⟩, rfl, rfl⟩, by simp, by simp⟩
  · rintro i _ h' tk ⟨hh, tk0, m, ents, xs, rfl, kept, ns, xr, rs, at_⟩ same _
    refine ⟨h', tk, m, ents, xs, rfl, fun c o z => same c o ?_ (kept c o z), ns.at fun o z => same C o ?_ z, xr, rs, at_.keep fun o z => same D o ?_ z⟩
    · simpa using Nat.ne_of_lt (Heap.lt_size z)
    · simpa using Nat.ne_of_gt hC
    · simpa using Nat.ne_of_gt hD
  · rintro i v _ hi isV st1 ⟨hh, tk0, m, ents, xs, rfl, kept, ns, xr, rs, at_⟩
    -- the i-th key
    have hiv : vals[i]? = some v := by simpa using isV
    obtain ⟨u, hu', ru⟩ : ∃ u, us[i]? = some u ∧ RelV u v := by
      have hl := rel.length
      have hi' : i < us.length := by have := (List.getElem?_eq_some_iff.mp hiv).1; omega
      obtain ⟨v', e1, r1⟩ := rel.get (i := i) (x := us[i]) (by simp [hi'])
      rw [hiv] at e1
      cases e1
      exact ⟨us[i], by simp [hi'], r1⟩
    obtain ⟨z, hz, rz⟩ := rvs.get hu'
    have zk : keyOk z = true := List.all_eq_true.mp keys z (List.mem_of_getElem? hz)
    obtain ⟨zz, ks, rfl, ez, dz⟩ := keyOk_some zk
    obtain ⟨ka, _, rfl, _, _⟩ := rz.tupS
    cases ru
    have ek : nkey (.tup zz) = some (.tup ks) := by show (nkeys zz).map NestedKey.tup = _; rw [ez]; rfl
    have isK : (nestedKind X.prog X.w).is s1.heap (.tup ks) ka := ⟨RV.nested J rz rfl ek, dz⟩
    have zi : i ≤ zs.length := Nat.le_of_lt (List.getElem?_eq_some_iff.mp hz).1
    have ln := dcAll_len b zs i
    have lx := xr.length
    refine wpAny_assign_Name (wpAny_storeName_local (hx C) ns (fun h4 ns4 same4 => ?_) (by rw [hfun C]; rfl))
    have n4 : ∀ c o, c ≠ C → hh.get? c = some o → h4.get? c = some o := fun c o nc z => (same4.2 c nc).trans z
    refine (show wpAny _ _ (pure true) _ _ _ from wpAny_pure ?_)
    rw [if_pos rfl]
    refine wpAny_Name (wpAny_loadName_local (hfun C) (hx C) ns4 (if_pos rfl) ?_) hd
    refine Constant_bool ?_
    have k4 : ∀ c o, s1.heap.get? c = some o → h4.get? c = some o := fun c o z => n4 c o (fun e => absurd (Heap.lt_size z) (by rw [e]; exact Nat.not_lt_of_gt hC)) (kept c o z)
    refine dc_put (P := X.prog) (w := X.w) (h0 := s1.heap) (xs := xs) (by show X.A.units + 8 < cLine; omega) (at_.keep fun o z => n4 D o ne z) k4 isK (by rw [sizeLine_eq]; omega) fun h5 tk5 at5 same5 => ?_
    have n5 : ∀ c o, c ≠ D → h4.get? c = some o → h5.get? c = some o := fun c o nd z => (same5.2 c nd).trans z
    obtain ⟨ents', xr', rs'⟩ := xr.put ez dz rz (.bl b) (show RelV (.bl b) (.bool b) from rfl) rs
    rw [← dcAll_take hz] at xr' rs'
    refine ⟨⟨h5, tk5, _, ents', _, rfl, fun c o z => n5 c o (fun e => absurd (Heap.lt_size z) (by rw [e]; exact Nat.not_lt_of_gt hD)) (k4 c o z), ns4.at fun o z => n5 C o (Ne.symm ne) z, xr', rs', at5⟩, ?_⟩
    exact ⟨st1.1.at fun o z => n5 n o (Nat.ne_of_lt hD) (n4 n o (Nat.ne_of_lt hC) z), st1.2.at fun o z => n5 a o (Nat.ne_of_lt (Nat.lt_trans ha hD)) (n4 a o (Nat.ne_of_lt (Nat.lt_trans ha hC)) z)⟩
  · rintro _ ⟨hh, tk, m, ents, xs, rfl, kept, ns, xr, rs, at_⟩
    have all : zs.take vals.toArray.size = zs := by
      rw [List.size_toArray, ← rel.length, ← rvs.length, List.take_length]
    rw [all] at xr rs
    refine ⟨m, ns, fun h' same => ?_⟩
    have n6 : ∀ c o, c ≠ C → hh.get? c = some o → h'.get? c = some o := fun c o nc z => (same.2 c nc).trans z
    have k6 : ∀ c o, s1.heap.get? c = some o → h'.get? c = some o := fun c o z => n6 c o (fun e => absurd (Heap.lt_size z) (by rw [e]; exact Nat.not_lt_of_gt hC)) (kept c o z)
    have at6 := at_.keep (h' := h') fun o z => n6 D o ne z
    have ln := dcAll_len b zs zs.length
    rw [List.take_length] at ln
    have lx := xr.length
    have sysD : (D == sysModules) = false := beq_eq_false_iff_ne.mpr (Nat.ne_of_gt (Nat.lt_trans J.big hD))
    refine ⟨.ref D, upd H1 D (.ext (DN D ents)), J.laid (t' := tk) k6 (Nat.le_of_lt hD) (dn_ok sysD (by rw [sizeLine_eq]; omega) xr (at6.dict k6)), rfl, q D ents (J.hok.fresh (Nat.le_of_lt hD)) rs⟩
/-- the new dict is a cell -/
def eDcT (b : Bool) (f : Env → M R) : Env → M R := fun ρ => bnd (f ρ) fun r => match r with
  | .w (.tup zs) => if zs.all keyOk && fits zs.length then newC (.dic true (dcAll b zs)) else fail
  | _ => fail
theorem q_dcT {x : Str} {b : Bool} {it : Expr} {f : Env → M R} {scope : Scope} {j : Nat} {p0 p1 p2 pos : Pos} (calm : X.calm = true) (hu : X.A.units + 9 < cLine) (hit : QE X E it f) (hfree : ∀ y ∈ scope.names, y.2 ≠ .free) (hcell : ∀ y ∈ scope.names, y.2 ≠ .cell) (hkind : scope.kind = .function)
    (hnames : ∀ y ∈ scope.names, y.2 = .local → scope.names.lookup y.1 = some .local) (hx : ∀ C, (compEnvC scope [] C X.env).kindOf x = some .local) (hfun : ∀ C, (compEnvC scope [] C X.env).scope.kind = .function) (hd : (x == ("__debug__" : Str)) = false := by decide) (hs : ∀ v, foldedSetIterable it X.env v = pure v := by intro _; rfl) :
    QE X E (.DictComp (.Name x p1) (.Constant (.bool b) j p2) [⟨.Name x p0, it, [], 0⟩] scope pos) (eDcT b f) := (pe_dcT calm hu hit hfree hcell hkind hnames hx hfun hd hs).imp fun σ H Q h => by
  obtain ⟨Z, μ, st, ρ, c, s, q⟩ := h
  refine rd_step (f := f) c s q fun r1 st1 μ1 H1 v1 n1 c1 s1 rv1 q1 => ?_
  split at q1
  · rename_i zs
    by_cases hf : (zs.all keyOk && fits zs.length) = true
    · rw [if_pos hf] at q1
      obtain ⟨f1, f2⟩ := Bool.and_eq_true_iff.mp hf
      obtain ⟨a, us, rfl, sq, rvs⟩ := rv1.tupS
      refine ⟨a, us, zs, _, rfl, sq, rvs, f1, of_decide_eq_true f2, fun D ents hD rs => ?_⟩
      exact q1.newC c1 hD (.dicN upd_same (rs.nx (Nx.newCell c1 hD))) _ (.loc (RR.newLoc c1))
    · rw [if_neg hf] at q1
      exact False.elim q1
  · exact False.elim q1
end
end Iv
end
section
set_option Elab.async false
set_option linter.all false
set_option maxRecDepth 100000
set_option maxHeartbeats 4000000
/-! Iv.R21: len of dicts with tuple keys, isinstance with an own class, the own ==. -/
namespace Iv
open PySem PySem.Spec PyProof.Rows L2

/-! ### len -/
theorem len_nested {X : Cx} {A : Around} {E : Value → Shared → Prop} {s : Shared} {d : Addr} {xs : List (NestedKey × Addr × Value)} {Q : Value → Shared → Prop} (nd : (d == sysModules) = false) (dd : s.heap.DictOfH (nestedKind X.prog X.w) d xs) (fit : xs.length ≤ sizeLine)
    (fin : Q (.int xs.length (s.toks + 1)) { s with toks := s.toks + 1 + 1 }) : wpAny (model X.prog X.w) A (call (.builtin "len") [.ref d]) Q E s := by
  have inner : ∀ {B : Around} {E' : Value → Shared → Prop} {R : Value → Shared → Prop}, R (.int xs.length s.toks) { s with toks := s.toks + 1 } → wpAny (model X.prog X.w) B (call (.builtin "dict.__len__") [.ref d]) R E' s := fun r =>
    len_keyed (kvs := pairsH xs) nd ⟨xs, dd, rfl⟩ (by rw [pairsH_length]; exact r)
  have small : ((xs.length : Nat) : Int) < 2 ^ 63 := by rw [sizeLine_eq] at fit; omega
  refine Calls.call_function_entry kind_len plain_len entry_len (args_len1 _) (wpAny_bind (m := oneArg "len" _) (wpAny_pure (wpAny_bind (m := callSpecial? (.ref d) (Str.ofString "__len__")) (wpAny_callSpecial?_slot dd.typeIs F.slot_dict_len (inner ?_)))))
  refine (show wpAny _ _ _ _ _ { s with toks := s.toks + 1 } from wpAny_bind (wpAny_holding (wpAny_pure (wpAny_bind (wpAny_letGo ?_)))))
  have a1 : ¬ ((xs.length : Nat) : Int) < 0 := by omega
  have a2 : ¬ ((xs.length : Nat) : Int) ≥ 2 ^ 63 := by omega
  refine (show wpAny _ _ (if ((xs.length : Nat) : Int) < 0 then _ else _) _ _ _ from ?_)
  rw [if_neg a1]
  refine (show wpAny _ _ (if ((xs.length : Nat) : Int) ≥ 2 ^ 63 then _ else _) _ _ _ from ?_)
  rw [if_neg a2]
  exact wpAny_bind (wpAny_mkInt (wpAny_pure ⟨_, rfl, fin⟩))
section
variable {X : Cx} {E : WX}
theorem cq_len2 : CallR X (.builtin "len") (rdC X.K X.w lenR2) := by
  intro pins s σ H vs us Q I rel h
  obtain ⟨Z, μ, st, rs, r, c, h1, e, q⟩ := h
  unfold lenR2 at e
  split at e
  · rename_i x
    cases ed : ndictOf st x with
    | none =>
      rw [ed] at e
      exact cq_len pins s σ H vs us Q I rel ⟨Z, μ, st, [x], r, c, h1, e, q⟩
    | some kvs =>
      rw [ed] at e
      cases e
      obtain ⟨v, rfl, h2⟩ := h1.one
      obtain ⟨d, ents, rfl, hd, rs⟩ := h2.ndictS c ed
      obtain ⟨u, rfl, ru⟩ := vals1 rel
      cases ru
      obtain ⟨g1, g2, xs, dd, xr⟩ := dn_dict I hd rs
      obtain ⟨l1, l2⟩ := xr.length
      refine len_nested g1 dd (by omega) ⟨.int kvs.length, H, I.tok _, ⟨_, by rw [l1, l2]⟩, q _ _ (Nx.refl _ _) c (.w (.int _))⟩
  · cases e

/-! ### isinstance(x, C), x an instance of just C -/
def isiC (cn : Str) (st : Sto) (xs : List R) : Option R := match xs with
  | [x, .w (.fn n)] => if n = cn then (if isIns cn "" st x then some (.w (.bl true)) else none) else none
  | _ => none
theorem cq_isiC {cn : Str} (c : C8.InsC X.K (He.ga X.K cn)) : CallR X (.builtin "isinstance") (rdC X.K X.w (isiC cn)) := by
  refine CallR.imp (C8.call_isC c) fun xs H Q h => ?_
  obtain ⟨Z, μ, st, rs, r, cc, h1, e, q⟩ := h
  unfold isiC at e
  split at e
  · rename_i x n
    obtain ⟨rfl, e⟩ := ite_some'' e
    obtain ⟨hi, e⟩ := ite_some e
    cases e
    obtain ⟨v, v', rfl, h2, h3⟩ := h1.two
    obtain ⟨a, dx, us, rfl, ha, _⟩ := h2.isIns cc hi
    have hv : v' = .ref (He.ga X.K n) := by
      cases h3 with
      | w h => cases h; rfl
    exact ⟨a, dx, us, by rw [hv], ha, q _ _ (Nx.refl _ _) cc (.w (.bl true))⟩
  · cases e

/-! ### x == y by the class's own `__eq__`, where it says True -/
/-- the two, by value, are equal by F -/
def SaysEq (K : PySem.W.Frag) (w : World) (F : List R → M R) (a b : Addr) (H : Hp) : Prop := ∃ (Z : Addr → Prop) (x y : W) (st : Sto), (∀ c, Z c → ∃ o, H c = some o) ∧ RV K w (Fb Z []) H x (.ref a) ∧ RV K w (Fb Z []) H y (.ref b) ∧ F [.w x, .w y] [] = .ok (.w (.bl true)) st
theorem saysEq_sp {K : PySem.W.Frag} {w : World} {F : List R → M R} {vs : List V} {H : Hp} {Q : VK} {E0 : XK} (h : spEq (SaysEq K w F) vs H Q E0) : spF K w 2 F vs H Q E0 := by
  obtain ⟨a, b, rfl, ⟨Z, x, y, st, there, rx, ry, e⟩, q⟩ := h
  refine ⟨rfl, Z, [], [], [.w x, .w y], ⟨rfl, List.nodup_nil, fun _ z => absurd z List.not_mem_nil, there, fun n ce a z => by simp at z⟩, .cons (.w rx) (.cons (.w ry) .nil), ?_⟩
  rw [e]
  intro μ' H' nx _ v rv
  rw [rv.bl]
  exact q H' fun c o z => nx.fr c o z List.not_mem_nil
def isT : Res R → Bool
  | .ok (.w (.bl true)) _ => true
  | _ => false
theorem isT_ok {r : Res R} (h : isT r = true) : ∃ st, r = .ok (.w (.bl true)) st := by
  unfold isT at h
  split at h
  · exact ⟨_, rfl⟩
  · cases h
def eqOwnR (cn : Str) (F : List R → M R) (_ : Sto) (x y : R) : Option R := match x, y with
  | .w (.ins c _), .w (.ins d _) => if (decide (c = cn) && decide (d = cn)) && isT (F [x, y] []) then some (.w (.bl true)) else none
  | _, _ => none
theorem RV.insS {K : PySem.W.Frag} {w : World} {F : Addr → Prop} {H : Hp} {c : Str} {fs : List (Str × W)} {v : V} (h : RV K w F H (.ins c fs) v) : ∃ a dx us, v = .ref a ∧ H a = some (.ins (He.ga K c) dx us) := by
  cases h with
  | ins e _ _ => exact ⟨_, _, _, rfl, e⟩
theorem oq_eqOwn {cn : Str} {f : Addr} {k : Nat} {F : List R → M R} (G : FnX X f k 2 F) (hr : Room k X.A) (at_ : PySem.W.findIn X.K (.ref (He.ga X.K cn)) "__eq__" = some (some (.ref f))) (fn : PySem.W.isFn X.K (.ref f) = true) : OpQ X (compareOp .Eq) (eqOwnR cn F) := by
  obtain ⟨⟨fd, ps, hb, hl, ok⟩, _⟩ := G
  have ok' : FnOk X.prog X.w X.K X.mg X.base (L2.CX X.prog X.w) k f fd ps (spEq (SaysEq X.K X.w F)) := ok.imp fun _ _ _ _ h => saysEq_sp h
  refine OpR.imp (op_eqG (rcG_ins (C := He.ga X.K cn) ok' at_ fn hb (passes_no (Y := X))) hr) fun x y H Q h => ?_
  obtain ⟨Z, μ, st, r1, r2, r, c, h1, h2, e, q⟩ := h
  unfold eqOwnR at e
  split at e
  · rename_i c1 fs c2 gs
    obtain ⟨hc, er⟩ := ite_some e
    clear e
    subst er
    obtain ⟨hc, e3⟩ := Bool.and_eq_true_iff.mp hc
    obtain ⟨e1, e2⟩ := Bool.and_eq_true_iff.mp hc
    obtain rfl := of_decide_eq_true e1
    obtain rfl := of_decide_eq_true e2
    obtain ⟨st', hF⟩ := isT_ok e3
    · have v1 : RV X.K X.w (Fb Z μ) H (.ins c2 fs) x := by
        cases h1 with
        | w h => exact h
      have v2 : RV X.K X.w (Fb Z μ) H (.ins c2 gs) y := by
        cases h2 with
        | w h => exact h
      obtain ⟨a, dx, us, rfl, ha⟩ := v1.insS
      obtain ⟨b, dy, vs, rfl, hb'⟩ := v2.insS
      have kp : Kp (Fb Z μ) H (Fb (Fb Z μ) []) H := Kp.same fun z n m => n (by
        rcases m with m | m
        · exact absurd m List.not_mem_nil
        · exact m)
      refine ⟨⟨a, b, dx, dy, us, vs, rfl, rfl, ha, hb', Fb Z μ, _, _, st', fun z m => ?_, v1.mono kp, v2.mono kp, hF⟩, fun H' ext => ?_⟩
      · rcases m with m | m
        · exact c.tracked m
        · exact c.there z m
      · have nx : Nx μ H μ H' := ⟨⟨[], by simp⟩, fun z o m _ => ext z o m⟩
        refine q _ H' nx ⟨c.len, c.nd, c.dis, fun z m => (c.there z m).imp fun o m => ext z o m, fun n ce z m1 m2 => ?_⟩ (.w (.bl true))
        obtain ⟨o, m⟩ := (c.ok n ce z m1 m2).at
        exact (c.ok n ce z m1 m2).mono nx.kp (fun _ _ m => m) ((ext z o m).trans m.symm)
  · cases e
end
end Iv
end
section
set_option Elab.async false
set_option linter.all false
/-! Iv.Gen: what the printed texts use. -/
namespace Iv
open PySem PySem.Spec PyProof.Rows L2
theorem FnQ.mk' {P : Program} {w : World} {K : PySem.W.Frag} {mg : Str → Option Value} {base : Heap} {x qual : Str} {params : Arguments} {body : List Stmt} {scope : Scope} {f : Addr} {fd : FuncData} {N ps : List Str} {k n m : Nat} {g : Env → SM} (F : FunD K x qual params body scope [] [] f fd) (S : FnScope N ps scope) (hn : N.length = n) (hb : Binds K fd ps []) (hl : ps.length = m)
    (hbody : ∀ (cdv : Value) (A : Around) (outer : List PySem.Env) (s : Shared) (H : Hp) (E : XK), Room k (A.deeper (envOfC qual scope s.heap.objs.size f cdv)) → QSs (cxOf (L2.CX P w) P w K mg base N qual scope f cdv A outer s H E) (fun cls d _ H => E cls d H) body g) :
    FnQ P w K mg base f (k + 1) m (runB n g) := ⟨⟨fd, ps, hb, hl, hl ▸ fn_q F S hn hbody⟩, F.kp⟩
theorem room65 {k : Nat} {A : Around} (r : Room k A) : A.units + 65 < cLine := by have := r.un; omega
theorem room64 {k : Nat} {A : Around} (r : Room k A) : A.units + 64 < cLine := by have := r.un; omega
theorem room1 {k : Nat} {A : Around} (r : Room k A) : A.units + 1 < cLine := by have := r.un; omega
theorem room9 {k : Nat} {A : Around} (r : Room k A) : A.units + 9 < cLine := by have := r.un; omega
/-- a comprehension's names, looked at -/
def blkB (N : List Str) (sc scope : Scope) (own : List (Str × Nat)) : Bool := decide (scope.kind = .function) && (scope.names.all fun y => decide (scope.names.lookup y.1 = some y.2)) && (own.all fun p => decide (N[p.2]? = some p.1)) &&
  (scope.names.all fun y => decide (y.2 = .free → sc.names.lookup y.1 = some .cell ∨ sc.names.lookup y.1 = some .free)) && scope.names.all fun y => decide (y.2 = .local ∨ y.2 = .cell → y.1 ∈ own.map (·.1) ∨ y.1 ∉ N)
theorem blk_ok {N : List Str} {sc scope : Scope} {own : List (Str × Nat)} (h : blkB N sc scope own = true) : BlkOk N sc scope own := by
  unfold blkB at h
  simp only [Bool.and_eq_true, List.all_eq_true, decide_eq_true_eq] at h
  obtain ⟨⟨⟨⟨h1, h2⟩, h3⟩, h4⟩, h5⟩ := h
  exact ⟨h1, fun y hy => h2 y hy, fun p hp => h3 p hp, fun y hy => h4 y hy, fun y hy => h5 y hy⟩
/-- a module's tuple of texts -/
def KTup (K : PySem.W.Frag) (x : Str) (ys : List Str) : Prop := ∃ (o : Obj) (its : Array Value) (n : Nat), K.lookup (He.ga K x) = some o ∧ o.cls = .type "tuple" ∧ o.data = .seq its n ∧ its.size ≤ sizeLine ∧ Vals (ys.map V.str) its.toList
theorem q_gtup {X : Cx} {E : WX} {x : Str} {ys : List Str} {pos : Pos} (hg : Gl X x) (hm : X.mg x = some (.ref (He.ga X.K x))) (k : KTup X.K x ys) (hd : (x == ("__debug__" : Str)) = false := by decide) : QE X E (.Name x pos) (eC (.tup (ys.map W.str))) :=
  q_const (pe_glob hg hm (show RelV (.ref _) (.ref _) from rfl) hd) fun _ _ => .tupK k (RVs.ofStrs ys)
end Iv
end
section
set_option Elab.async false
set_option linter.all false
set_option maxRecDepth 100000
set_option maxHeartbeats 4000000
/-! Iv.X1: own exceptions are raised: classes whose __init__ calls the base's and sets fields. -/
namespace Iv
open PySem PySem.Spec PyProof.Rows L2

/-- the base class: its __init__ is ValueError's -/
structure XBase (K : PySem.W.Frag) (b : Str) : Prop where
  rd : ClX.CRead K (He.ga K b) (.type "type")
  at_ : PySem.W.findCls K (.ref (He.ga K b)) (.type "type") "__init__" = some (.val (.builtin "ValueError.__init__"))
/-- an own class over it, with an __init__ -/
structure XCls (K : PySem.W.Frag) (cn : Str) : Prop where
  ox : OexC K (He.ga K cn)
  init : PySem.W.findIn K (.ref (He.ga K cn)) "__init__" = some (some (.ref (He.ma K (He.ga K cn) "__init__")))
  fnI : PySem.W.typeIn K (.ref (He.ma K (He.ga K cn) "__init__")) = some (.type "function")

section
variable {X : Cx}
/-- B.__init__(self, ..) -/
theorem pe_binit {b : Str} {e : Expr} {es : List Expr} {ta : TA} {p1 p2 pos : Pos} {pl : Sem Bool} (B : XBase X.K b) (hg : Gl X b) (hm : X.mg b = some (.ref (He.ga X.K b))) (ha : PA X (e :: es) ta)
    (hdb : (b == ("__debug__" : Str)) = false := by decide)
    (ht : eval (.Call (.Attribute (.Name b p1) "__init__" p2) (e :: es) [] pos) X.env = (do let ov ← eval (.Name b p1) X.env; standAt p2.atName; let (f, first) ← holding [ov] (getMethod ov "__init__" pl); callWith pos f first (backTo pos (starEach (e :: es) X.env)) (backToKw pos (keywordEach [] X.env))) := by rfl)
    (hst : starEach (e :: es) X.env = (false, eval e X.env) :: starEach es X.env := by rfl) (hpl : (backTo pos (starEach es X.env)).any (·.1) = false := by rfl) :
    PE X (.Call (.Attribute (.Name b p1) "__init__" p2) (e :: es) [] pos) (tVeI X.K ta) :=
  ⟨fun pins s σ H Q I h => PySem.W.methodCall_KW (pl := pl) (ld_glob I hg hm (PySem.W.method_cls I.kIn B.rd.ga (PySem.W.cls_value I.kIn B.rd.rd B.at_ rfl
    (callWith_method1 (thn (ha.run pos pins _ σ H _ (I.tok _) h) fun us s1 hh => by
      obtain ⟨vs, H1, I1, r1, a, C, ws, rfl, hl, T, ea, q⟩ := hh
      cases r1 with
      | cons ra rw' =>
        cases ra
        exact oinit_ok T I1 ea (by rw [← Paired.length rw', sizeLine_eq]; omega) fun s' J => ⟨.non, H1, J, rfl, q⟩) hst hpl))) hdb) ht⟩

/-! ### what __init__ promises: no field, one, two -/
def spX0 (K : PySem.W.Frag) (C : Addr) : Sp := fun vs H Q _ => ∃ a, vs = [.ref a] ∧ H a = some (exo a C none) ∧ Q .non H
def spX1 (K : PySem.W.Frag) (C : Addr) (f : Str) : Sp := fun vs H Q _ => ∃ a y, vs = [.ref a, y] ∧ H a = some (exo a C none) ∧ ∀ dx, H dx = none → dx ≠ a → Q .non (upd (upd H dx (exd dx [(f, y)])) a (exo a C (some dx)))
def spX2 (K : PySem.W.Frag) (C : Addr) (f g : Str) : Sp := fun vs H Q _ => ∃ a y z, vs = [.ref a, y, z] ∧ H a = some (exo a C none) ∧
  ∀ dx, H dx = none → dx ≠ a → Q .non (upd (upd (upd H dx (exd dx [(f, y)])) a (exo a C (some dx))) dx (exd dx [(g, z), (f, y)]))
variable {K : PySem.W.Frag} {C : Addr} {f g : Str} {z : Str} {vs : List V} {H : Hp} {Q : VK} {E : XK} {ns : List Str}
theorem x0_read (T : OexC K C) (h : spX0 K C vs H Q E) : tDrop (tVeI K (tCons (tVar 0) (tCons (tC (.str z)) tNil))) { nx := fun _ H' => Q .non H', rt := Q } (start ["self"] vs) H := by
  obtain ⟨a, rfl, ha, q⟩ := h
  exact ⟨_, rfl, a, C, _, rfl, by simp, T, ha, q⟩
theorem x1_read (T : OexC K C) (hf : PySem.W.findIn K (.ref C) f = some none) (h : spX1 K C f vs H Q E) : tSeq (tDrop (tVeI K (tCons (tVar 0) (tCons (tC (.str z)) tNil)))) (tOst K f (tVar 0) (tVar 1)) { nx := fun _ H' => Q .non H', rt := Q } (start ["self", f] vs) H := by
  obtain ⟨a, y, rfl, ha, q⟩ := h
  exact ⟨_, rfl, a, C, _, rfl, by simp, T, ha, y, rfl, _, rfl, a, C, rfl, T, hf, .inl ⟨ha, q⟩⟩
theorem x2_read (T : OexC K C) (hf : PySem.W.findIn K (.ref C) f = some none) (hg : PySem.W.findIn K (.ref C) g = some none) (h : spX2 K C f g vs H Q E) :
    tSeq (tDrop (tVeI K (tCons (tVar 0) (tCons (tC (.str z)) tNil)))) (tSeq (tOst K f (tVar 0) (tVar 1)) (tOst K g (tVar 0) (tVar 2))) { nx := fun _ H' => Q .non H', rt := Q } (start ["self", f, g] vs) H := by
  obtain ⟨a, y, u, rfl, ha, q⟩ := h
  refine ⟨_, rfl, a, C, _, rfl, by simp, T, ha, y, rfl, _, rfl, a, C, rfl, T, hf, .inl ⟨ha, fun dx hn hne => ?_⟩⟩
  refine ⟨u, rfl, _, rfl, a, C, rfl, T, hg, .inr ⟨dx, _, upd_same, by rw [upd_ne hne]; exact upd_same, by simp, q dx hn hne⟩⟩
end

/-! ### raise C(..) -/
def sRaise (cn : Str) (fl : List Str) (g : Env → M (List R)) : Env → SM := fun ρ => bndS ρ (g ρ) fun rs => if rs.length = fl.length then (match mapO asW rs with
  | some ws => ret (.ex ⟨cn, fl.zip ws⟩, ρ)
  | none => fail) else fail
section
variable {X : Cx} {E : WX} {cn : Str} {k : Nat} {fd : FuncData} {p pos pos' : Pos} {ps : List Str}
/-- an exception without a dict is let go of: the rest of the heap is ours -/
theorem inv_letgo {pins : List (Addr × Obj)} {σ : L2.St} {H : Hp} {hp hp2 h2 : Heap} {g1 g2 : Array GenState} {d1 d2 : Drawn} {t1 t2 : Nat} {os1 os2 : OsState} {a C : Addr} (I : Inv X pins σ H ⟨hp, g1, d1, t1, os1⟩) (ha : hp.objs.size ≤ a)
    (k : ∀ b o, hp.get? b = some o → hp2.get? b = some o) (un : Un (frs X.stack) [] (upd H a (exo a C none)) (upd H a (exo a C none)) hp2 h2) (hok : HOk X.prog X.w (upd H a (exo a C none)) h2) (ho : os2 = os1) (hb : AllBare g2) :
    ∃ G : Heap, Inv X pins σ H ⟨G, g2, d2, t2, os2⟩ ∧ (∀ b o, G.get? b = some o → h2.get? b = some o) ∧ G.get? a = none := by
  obtain ⟨G, in_, out⟩ := restrict h2 fun b => !decide (b = a)
  have same : ∀ {b}, b ≠ a → G.get? b = h2.get? b := fun hb => in_ _ (by simp [hb])
  have gone : G.get? a = none := out a (by simp)
  have old : ∀ {b o}, hp.get? b = some o → b ≠ a := fun e z => Nat.lt_irrefl _ (Nat.lt_of_lt_of_le (Heap.lt_size (z ▸ e)) ha)
  have new : H a = none := I.hok.fresh ha
  have tr : ∀ {b o}, H b = some o → b ≠ a := fun e => ne_of_none e new
  have off : ∀ {b}, b ≠ a → upd H a (exo a C none) b = H b := fun hb => upd_ne hb
  have U : Un (frs X.stack) [] H H hp G := ⟨fun b o e n hf _ => (same (old e)).trans (un.keep b o (k _ _ e) ((off (old e)).trans n) hf (by simp)),
    fun b o e n hf _ => (un.slot b o (k _ _ e) ((off (old e)).trans n) hf (by simp)).imp fun _ q => (same (old e)).trans q, fun _ _ _ n _ => n,
    fun b o e _ => (un.there b o (k _ _ e) (by simp)).imp fun _ q => (same (old e)).trans q, fun _ _ e => e, fun _ _ _ e => e, fun b ps e => ⟨#[], by rw [e]; simp⟩⟩
  have hokG : HOk X.prog X.w H G := fun b o e => (hok b o ((off (tr e)).trans e)).stay (fun c u hc q => (same (by
      rcases hc with rfl | hc
      · exact tr e
      · exact fun z => by subst z; rw [upd_same] at hc; exact exo_own (Option.some.inj hc))).trans q) (fun c hc => by
      have : c ≠ a := fun z => by subst z; rw [upd_same] at hc; exact exo_own (Option.some.inj hc)
      rw [off this] at hc; exact hc) (fun c xs hc => by
      have : c ≠ a := fun z => by subst z; rw [upd_same] at hc; exact exo_tup (Option.some.inj hc)
      rw [off this] at hc; exact hc)
  refine ⟨G, I.call' (s' := ⟨G, g2, d2, t2, os2⟩) (ch := []) ho U hokG hb (fun b z => nomatch z), fun b o e => ?_, gone⟩
  have : b ≠ a := fun z => by subst z; rw [gone] at e; cases e
  rw [← same this]; exact e
/-- C() -/
theorem pmk_x0 (T : XCls X.K cn) (F1 : FnOk X.prog X.w X.K X.mg X.base (L2.CX X.prog X.w) k (He.ma X.K (He.ga X.K cn) "__init__") fd ps (spX0 X.K (He.ga X.K cn))) (hr : Room (k + 1) X.A) (hb : Binds X.K fd ps []) (hg : Gl X cn) (hm : X.mg cn = some (.ref (He.ga X.K cn)))
    (hdb : (cn == ("__debug__" : Str)) = false := by decide) : PMk X (.Call (.Name cn p) [] [] pos) (fun σ H Q => Q (.ref (He.ga X.K cn)) none H) := by
  intro pins s σ H Q I h
  obtain ⟨nm, q, N, bs, bm, sn, sub, ab, col, dd, k0, k1, k2, k3, k5, hC, hbm⟩ := T.ox.cls
  refine wpAny_Call_Name_kw (ld_glob I hg hm (PySem.W.callWith_K0 I.kIn T.ox.kC ?_) hdb)
  obtain ⟨hp, g, dr, tk, os⟩ := s
  let C := He.ga X.K cn
  let a := hp.objs.size + 1
  let hp2 := (hp.push (PySem.W.kdv_tup [])).push (PySem.HandSPX.excO C hp.objs.size)
  have kk : ∀ b o, hp.get? b = some o → hp2.get? b = some o := fun b o e => Heap.get?_push_of_some _ (Heap.get?_push_of_some _ e)
  have hget : hp2.get? a = some (PySem.HandSPX.excO C hp.objs.size) := by
    show ((hp.push (PySem.W.kdv_tup [])).push (PySem.HandSPX.excO C hp.objs.size)).get? (hp.objs.size + 1) = _
    heap_get
  have J : Inv X pins σ (upd H a (exo a C none)) ⟨hp2, g, dr, tk, os⟩ := I.laid (t' := tk) (a := a) (o := exo a C none) (h' := hp2) kk (Nat.le_succ _) (exo_ok hget)
  have sp : spX0 X.K C [.ref a] (upd H a (exo a C none)) (fun v H2 => v = .non ∧ H2 = upd H a (exo a C none)) (fun _ _ _ => False) := ⟨a, rfl, upd_same, rfl, rfl⟩
  have hl : ([Value.ref a] ++ []).length = ps.length := F1.len _ _ _ _ sp
  refine wpAny_call (PySem.HandSPX.call_own F.excBase_ValueError (fun Y => PySem.HandSPX.refsVE_contains Y bm hbm) (I.kIn _ _ hC) (PySem.W.looks_findIn I.kIn T.init) (fun self => PySem.W.bind_fn I.kIn self T.fnI) (by simp)
    (codeAny_mono (F1.run _ X.stack _ _ ⟨[Value.ref a], []⟩ [Value.ref a] [.ref a] _ (fun _ _ _ => False) (hr.make C [] []) (J.env0.make C [] []) (hb _ [Value.ref a] J.kIn hl) (.cons rfl .nil) sp) fun r s' hq => ?_))
  cases r with
  | error er => exact passes_no (Y := X) pins σ _ _ er s' J hq
  | ok fl =>
    cases fl with
    | ret u =>
      obtain ⟨v, H2, os2, bare2, un2, hok2, rv, rfl, rfl⟩ := hq
      obtain ⟨h2, g2, d2, t2, os'⟩ := s'
      obtain ⟨G, JG, kG, ge⟩ := inv_letgo (d2 := d2) (t2 := t2) I (Nat.le_succ _) kk un2 hok2 os2 bare2
      obtain ⟨t0, hoe⟩ := exo_at hok2 upd_same
      exact ⟨rv, a, _, _, ⟨G, g2, d2, t2, os'⟩, H, .ref C, none, rfl, JG, kG, ge, hoe, ⟨rfl, rfl⟩, rfl, rfl, I.hok.fresh (Nat.le_succ _), rfl, bare2, raises_own T.ox.exC T.ox.tyC, h⟩
    | next => exact hq.elim
    | brk => exact hq.elim
    | cont => exact hq.elim
theorem q_raise0 (T : XCls X.K cn) (F1 : FnOk X.prog X.w X.K X.mg X.base (L2.CX X.prog X.w) k (He.ma X.K (He.ga X.K cn) "__init__") fd ps (spX0 X.K (He.ga X.K cn))) (hr : Room (k + 1) X.A) (hb : Binds X.K fd ps []) (hg : Gl X cn) (hm : X.mg cn = some (.ref (He.ga X.K cn))) (hc : X.calm = true) (tk : Takes X E)
    (hdb : (cn == ("__debug__" : Str)) = false := by decide) : QS X E (.Raise (some (.Call (.Name cn p) [] [] pos)) none pos') (sRaise cn [] aNil) :=
  (ps_raise hc tk (pmk_x0 T F1 hr hb hg hm hdb)).imp fun D σ H hh => by
    obtain ⟨Z, μ, st, ρ, c, s, q⟩ := hh
    have q' : Sat X.K X.w WX0 Z μ H σ (ret (Fl.ex ⟨cn, []⟩, ρ) st) (PostS X.K X.w E Z D) := q
    exact (q'.ok c : ∀ σ' cls d, _ → _ → _) σ _ _ s (.no rfl)
/-- behind the making of C(y, ..): all stands as it stood, the fields' dict is new -/
theorem xd_read {K : PySem.W.Frag} {w : World} {Z : Addr → Prop} {μ : List Addr} {st : Sto} {H : Hp} {fs : List (Str × V)} {d : Addr} {fl : List Str} {ws : List W} (c : Cells K w Z μ st H) (hd : H d = none) (r : ∀ f y, (fl.zip ws).lookup f = some y → ∃ v, fs.lookup f = some v ∧ RV K w (Fb Z μ) H y v) :
    Nx μ H μ (upd H d (.xd fs)) ∧ Cells K w Z μ st (upd H d (.xd fs)) ∧ RX K w (Fb Z μ) (upd H d (.xd fs)) ⟨cn, fl.zip ws⟩ (.ref (He.ga K cn)) (some d) :=
  ⟨Nx.new hd, c.new hd, .mk upd_same (c.fresh hd) fun f y e => let ⟨v, e1, rv⟩ := r f y e; ⟨v, e1, rv.nx (Nx.new hd)⟩⟩
theorem heap1 {H : Hp} {a d : Addr} {o1 o2 o3 o4 : HO} (ha : H a = none) (hd : H d = none) (ne : d ≠ a) : upd (del (upd (upd (upd H a o1) d o2) a o3) a) d o4 = upd H d o4 := by
  funext b
  by_cases h : b = d
  · subst h; rw [upd_same, upd_same]
  · rw [upd_ne h, upd_ne h]
    by_cases h' : b = a
    · subst h'; rw [del_same, ha]
    · rw [del_ne h', upd_ne h', upd_ne h, upd_ne h']
theorem heap2 {H : Hp} {a d : Addr} {o1 o2 o3 o4 o5 : HO} (ha : H a = none) (hd : H d = none) (ne : d ≠ a) : upd (del (upd (upd (upd (upd H a o1) d o2) a o3) d o5) a) d o4 = upd H d o4 := by
  funext b
  by_cases h : b = d
  · subst h; rw [upd_same, upd_same]
  · rw [upd_ne h, upd_ne h]
    by_cases h' : b = a
    · subst h'; rw [del_same, ha]
    · rw [del_ne h', upd_ne h, upd_ne h', upd_ne h, upd_ne h']
theorem raise_sat {cn : Str} {fl : List Str} {K : PySem.W.Frag} {w : World} {Z : Addr → Prop} {μ : List Addr} {st : Sto} {H : Hp} {σ : L2.St} {ρ : Env} {rs : List R} {D : Ends}
    (h : Sat K w WX0 Z μ H σ ((if rs.length = fl.length then (match mapO asW rs with | some ws => ret (Fl.ex ⟨cn, fl.zip ws⟩, ρ) | none => fail) else fail) st) (PostS K w E Z D)) :
    ∃ ws, rs.length = fl.length ∧ mapO asW rs = some ws ∧ Sat K w WX0 Z μ H σ (.ok (Fl.ex ⟨cn, fl.zip ws⟩, ρ) st) (PostS K w E Z D) := by
  obtain ⟨hl, h⟩ := h.ite
  cases e : mapO asW rs with
  | none => rw [e] at h; exact False.elim h
  | some ws => rw [e] at h; exact ⟨ws, hl, rfl, h⟩
variable {f f' : Str} {e : Expr} {es : List Expr} {g : Env → M (List R)}
theorem q_raise1 (T : XCls X.K cn) (F1 : FnOk X.prog X.w X.K X.mg X.base (L2.CX X.prog X.w) k (He.ma X.K (He.ga X.K cn) "__init__") fd ps (spX1 X.K (He.ga X.K cn) f)) (hr : Room (k + 1) X.A) (hb : Binds X.K fd ps []) (hg : Gl X cn) (hm : X.mg cn = some (.ref (He.ga X.K cn))) (hc : X.calm = true) (tk : Takes X E)
    (ha : QA X E (e :: es) g) (hdb : (cn == ("__debug__" : Str)) = false := by decide) (he : starEach (e :: es) X.env = (false, eval e X.env) :: starEach es X.env := by rfl) (hpl : (backTo pos (starEach es X.env)).any (·.1) = false := by rfl) :
    QS X E (.Raise (some (.Call (.Name cn p) (e :: es) [] pos)) none pos') (sRaise cn [f] g) :=
  (ps_raise hc tk (pmk_oex T.ox T.init T.fnI F1 hr hb .nil passes_no hg hm ha hdb he hpl)).imp fun D σ H hh => by
    obtain ⟨Z, μ, st, ρ, c, s, q⟩ := hh
    refine rdSA_step (f := g) c s q fun rs st1 μ1 H1 vs n1 c1 s1 rv1 q1 => ?_
    obtain ⟨ws, hl, ew, q2⟩ := raise_sat q1
    have rws := rv1.ws ew
    cases rv1 with
    | nil => cases hl
    | cons ra rb =>
      cases rb with
      | cons _ _ => simp at hl
      | nil =>
        cases rws with
        | cons ry rn =>
          cases rn
          refine ⟨by simp, fun a na => ⟨a, _, rfl, upd_same, fun dx hd hne => ⟨rfl, dx, _, upd_same, by rw [upd_ne hne]; exact upd_same, ?_, ?_⟩⟩⟩
          · exact (upd_ne hne).symm.trans hd
          · have hd' : H1 dx = none := (upd_ne hne).symm.trans hd
            rw [heap1 na hd' hne]
            obtain ⟨n3, c3, rx⟩ := xd_read (cn := cn) (d := dx) (fl := [f]) (fs := [(f, _)]) c1 hd' (ws := [_]) fun g y e => by
              simp only [List.zip_cons_cons, List.zip_nil_right, List.lookup_cons, List.lookup_nil] at e ⊢
              cases hq : (g == f) with
              | true => rw [hq] at e; cases e; exact ⟨_, rfl, ry⟩
              | false => rw [hq] at e; cases e
            exact (q2 _ _ n3 c3 : ∀ σ' cls d, _ → _ → _) σ _ _ (s1.nx n3) rx
theorem q_raise2 (T : XCls X.K cn) (F1 : FnOk X.prog X.w X.K X.mg X.base (L2.CX X.prog X.w) k (He.ma X.K (He.ga X.K cn) "__init__") fd ps (spX2 X.K (He.ga X.K cn) f f')) (hr : Room (k + 1) X.A) (hb : Binds X.K fd ps []) (hg : Gl X cn) (hm : X.mg cn = some (.ref (He.ga X.K cn))) (hc : X.calm = true) (tk : Takes X E)
    (hff : f ≠ f') (ha : QA X E (e :: es) g) (hdb : (cn == ("__debug__" : Str)) = false := by decide) (he : starEach (e :: es) X.env = (false, eval e X.env) :: starEach es X.env := by rfl) (hpl : (backTo pos (starEach es X.env)).any (·.1) = false := by rfl) :
    QS X E (.Raise (some (.Call (.Name cn p) (e :: es) [] pos)) none pos') (sRaise cn [f, f'] g) :=
  (ps_raise hc tk (pmk_oex T.ox T.init T.fnI F1 hr hb .nil passes_no hg hm ha hdb he hpl)).imp fun D σ H hh => by
    obtain ⟨Z, μ, st, ρ, c, s, q⟩ := hh
    refine rdSA_step (f := g) c s q fun rs st1 μ1 H1 vs n1 c1 s1 rv1 q1 => ?_
    obtain ⟨ws, hl, ew, q2⟩ := raise_sat q1
    have rws := rv1.ws ew
    cases rv1 with
    | nil => cases hl
    | cons ra rb =>
      cases rb with
      | nil => simp at hl
      | cons rc rd =>
        cases rd with
        | cons _ _ => simp at hl
        | nil =>
          cases rws with
          | cons ry rn =>
            cases rn with
            | cons rz rn =>
              cases rn
              refine ⟨by simp, fun a na => ⟨a, _, _, rfl, upd_same, fun dx hd hne => ⟨rfl, dx, _, by rw [upd_ne (Ne.symm hne)]; exact upd_same, upd_same, ?_, ?_⟩⟩⟩
              · exact (upd_ne hne).symm.trans hd
              · have hd' : H1 dx = none := (upd_ne hne).symm.trans hd
                rw [heap2 na hd' hne]
                obtain ⟨n3, c3, rx⟩ := xd_read (cn := cn) (d := dx) (fl := [f, f']) (fs := [(f', _), (f, _)]) c1 hd' (ws := [_, _]) fun g y e => by
                  simp only [List.zip_cons_cons, List.zip_nil_right, List.lookup_cons, List.lookup_nil] at e ⊢
                  cases hq : (g == f) with
                  | true =>
                    rw [hq] at e
                    cases e
                    have hgf : g = f := by simpa using hq
                    have hq' : (g == f') = false := by rw [hgf]; simpa using hff
                    rw [hq']
                    exact ⟨_, rfl, ry⟩
                  | false =>
                    rw [hq] at e
                    cases hq' : (g == f') with
                    | true => rw [hq'] at e; cases e; exact ⟨_, rfl, rz⟩
                    | false => rw [hq'] at e; cases e
                exact (q2 _ _ n3 c3 : ∀ σ' cls d, _ → _ → _) σ _ _ (s1.nx n3) rx
end
end Iv
end
section
set_option Elab.async false
set_option linter.all false
set_option maxRecDepth 100000
set_option maxHeartbeats 4000000
/-! Iv.X2: try with any number of clauses, each with a name or without. -/
namespace Iv
open PySem PySem.Spec PyProof.Rows L2

/-! ### an exception that has landed in this frame -/
structure Landed (X : Cx) (pins : List (Addr × Obj)) (σ : L2.St) (H : Hp) (sI s : Shared) (B : Heap) (a : Addr) (cls : Value) (d : Option Addr) : Prop where
  inv : Inv X pins σ H sI
  nb : ∀ b o, sI.heap.get? b = some o → b ∉ frs X.stack → B.get? b = some o
  up : sI.heap.UpToSlots s.heap
  fl : HandSPX.FlyingZ B (X.env :: X.outer) a (Zc cls d) s.heap
  os : s.os = sI.os
  ag : AllBare s.gens
  na : H a = none
section
variable {X : Cx} {pins : List (Addr × Obj)} {σ : L2.St} {H : Hp} {sI s : Shared} {B : Heap} {a : Addr} {cls : Value} {d : Option Addr}
theorem Landed.here (l : Landed X pins σ H sI s B a cls d) : Inv X pins σ H s := l.inv.landed l.nb l.fl.1 l.up l.os l.ag
theorem Landed.suite (hf : X.env.frame = some X.env.locals) (l : Landed X pins σ H sI s B a cls d) : ∃ oe, Zc cls d oe ∧ (∃ vs, oe.data = .fields vs) ∧ s.heap.get? a = some oe ∧ Inv (X.suite a ((a, oe) :: (X.pn ++ pins))) [] σ H s := by
  obtain ⟨oe, vs, he, hz, hd⟩ := l.fl.there
  have far : a ∉ frs (X.env :: X.outer) := fun hm => by
    obtain ⟨_, o, e, hnf⟩ := l.fl.2.2.1.mem hm
    exact hnf vs (by rw [← Option.some.inj (he.symm.trans e)]; exact hd)
  refine ⟨oe, hz, ⟨vs, hd⟩, he, l.here.suite he hd l.na (fun z => far ?_) fun hm => far ?_⟩
  · exact List.mem_filterMap.mpr ⟨X.env, List.mem_cons_self, hf.trans (congrArg some z.symm)⟩
  · obtain ⟨e, q1, q2⟩ := List.mem_filterMap.mp hm
    exact List.mem_filterMap.mpr ⟨e, List.mem_cons_of_mem _ q1, q2⟩
theorem Landed.again {M : Model} {A : Around} {E : Value → Shared → Prop} {Q : Unit → Shared → Prop} (l : Landed X pins σ H sI s B a cls d) (h : ∀ s', Landed X pins σ H sI s' B a cls d → Q () s') : wpAny M A (setFlight (.ref a) none) Q E s :=
  HandSPX.lands_againZ l.fl fun h' f u => h _ ⟨l.inv, l.nb, l.up.trans u, f, l.os, l.ag, l.na⟩
theorem Landed.class_ (hf : X.env.frame = some X.env.locals) (l : Landed X pins σ H sI s B a cls d) {x : Str} {c : Value} (hc : Names X x c) {np : Pos} {Q : Value → Shared → Prop} {E : Value → Shared → Prop} (q : Q c s) : wpAny (model X.prog X.w) (X.A.mark (some (.ref a))) (eval (.Name x np) X.env) Q E s := by
  obtain ⟨oe, _, _, _, S⟩ := l.suite hf
  obtain ⟨hg, hdb, hm | ⟨hm, hv, hn⟩⟩ := hc
  · exact ld_glob (X := X.suite a ((a, oe) :: (X.pn ++ pins))) S hg hm q hdb
  · exact ld_blt (X := X.suite a ((a, oe) :: (X.pn ++ pins))) S hg hm hv q hn hdb
theorem Landed.matches_ (l : Landed X pins σ H sI s B a cls d) {c : Value} {b : Bool} (h : PySem.W.exmOne X.K cls c = some b) : PySem.W.Looks (model X.prog X.w) s.heap (excMatches (.ref a) c) b := by
  obtain ⟨oe, vs, he, hz, hd⟩ := l.fl.there
  exact PySem.W.exm_one l.here.kIn (fun A Q E s k q => wpAny_typeOf_ref (k _ _ he) (by rw [hz.1]; exact q)) h
/-- no clause takes it: it flies on -/
theorem Landed.onward {W : WX} (hs : X.stack = X.env :: X.outer) (hf : X.env.frame = some X.env.locals) (tk : Takes X W) (l : Landed X pins σ H sI s B a cls d) (w : W cls d σ H) {D : Ends} : wpAny (model X.prog X.w) X.A (handleBy (.ref a) X.env []) (SP X pins D) X.xe s := by
  refine wpAny_handleBy_nil ?_
  obtain ⟨_, _, _, oe, vs, T, _, _, he, _, hd, h1, _⟩ := id l.fl
  unfold PySem.passOn
  refine wpAny_bind (wpAny_field he hd h1 ?_)
  rw [if_neg (by simp)]
  have go : wpAny (model X.prog X.w) X.A (setFlight (.ref a) X.env.frame) (fun _ s' => wpAny (model X.prog X.w) X.A (throw (.ref a) : Sem Flow) (SP X pins D) X.xe s') X.xe s :=
    hf ▸ HandSPX.setFlight_upZ l.fl fun h' hh u => wpAny_throw (tk _ _ ⟨a, B, sI, pins, σ, H, cls, d, rfl, l.inv, l.nb, l.up.trans u, .inr (.inr (hs ▸ hh)), l.na, l.os, l.ag, w⟩)
  first
    | exact wpAny_bind (wpAny_pure (wpAny_bind go))
    | exact wpAny_bind go
end

/-! ### the clauses -/
abbrev Cl := Value × Option Nat × (Addr → Value → Option Addr → TS)
def asV (o : Option Nat) (a : Addr) (σ : L2.St) : L2.St := match o with
  | none => σ
  | some i => σ.set i (some (.ref a))
def unV (o : Option Nat) (σ : L2.St) : L2.St := match o with
  | none => σ
  | some i => σ.set i none
def unD (o : Option Nat) (D : Ends) : Ends := ⟨fun σ H => D.nx (unV o σ) H, D.rt, fun σ H => D.bk (unV o σ) H, fun σ H => D.ct (unV o σ) H⟩
/-- what the clauses wish of an exception of the body -/
def wCl (K : PySem.W.Frag) (Wout : WX) (D : Ends) : List Cl → WX
  | [] => Wout
  | (c, o, ts) :: r => fun cls d σ H => ∃ b, PySem.W.exmOne K cls c = some b ∧ (b = true → ∀ a, H a = none → ts a cls d (unD o D) (asV o a σ) H) ∧ (b = false → wCl K Wout D r cls d σ H)
inductive ClsOk (X : Cx) : List ExceptHandler → List Cl → Prop
  | nil : ClsOk X [] []
  | bare {x : Str} {c : Value} {ts : Addr → Value → Option Addr → TS} {b₀ : Stmt} {suite : List Stmt} {np pos : Pos} {hds : List ExceptHandler} {l : List Cl} (hc : Names X x c)
      (hsu : ∀ a oe cls d pn, Zc cls d oe → (∃ vs, oe.data = .fields vs) → PSs (X.suite a ((a, oe) :: pn)) (b₀ :: suite) (ts a cls d)) (r : ClsOk X hds l) :
      ClsOk X (.ExceptHandler (some (.Name x np)) none (b₀ :: suite) pos :: hds) ((c, none, ts) :: l)
  | named {x n : Str} {c : Value} {i : Nat} {ts : Addr → Value → Option Addr → TS} {b₀ : Stmt} {suite : List Stmt} {np pos : Pos} {hds : List ExceptHandler} {l : List Cl} (hc : Names X x c) (hN : X.N.Nodup) (hi : X.N[i]? = some n) (hl : X.env.kindOf n = some .local)
      (hsu : ∀ a oe cls d pn, Zc cls d oe → (∃ vs, oe.data = .fields vs) → PSs (X.suite a ((a, oe) :: pn)) (b₀ :: suite) (ts a cls d)) (r : ClsOk X hds l) :
      ClsOk X (.ExceptHandler (some (.Name x np)) (some n) (b₀ :: suite) pos :: hds) ((c, some i, ts) :: l)
section
variable {X : Cx} {pins : List (Addr × Obj)} {σ : L2.St} {H : Hp} {sI s : Shared} {B : Heap} {a : Addr} {cls : Value} {d : Option Addr} {W : WX} {D : Ends}
theorem Landed.clauses (hs : X.stack = X.env :: X.outer) (hf : X.env.frame = some X.env.locals) (tk : Takes X W) {hds : List ExceptHandler} {l : List Cl} (k : ClsOk X hds l) :
    ∀ {s : Shared}, Landed X pins σ H sI s B a cls d → wCl X.K W D l cls d σ H → wpAny (model X.prog X.w) X.A (handleBy (.ref a) X.env hds) (SP X pins D) X.xe s := by
  induction k with
  | nil => exact fun L w => L.onward hs hf tk w
  | bare hc hsu r ih =>
    rintro s L ⟨b, hb, yes, no⟩
    have ok := L.inv.ok
    refine wpAny_handleBy_cons (codeAny_handlers_test (L.class_ hf hc ((L.matches_ hb).here ?_))) (by intro q; cases q)
    cases b with
    | false => exact ih L (no rfl)
    | true =>
      refine codeAny_handlers_suite (L.again fun s1 L1 => ?_)
      obtain ⟨oe, hz, hd, _, S⟩ := L1.suite hf
      refine wpAny_mono ((hsu a oe cls d (X.pn ++ pins) hz hd).run [] _ _ H _ S (yes rfl a L.na)) (fun fl s2 h => ?_) fun _ _ z => z.elim
      cases fl with
      | next => exact h.imp fun _ h => h.imp fun _ h => ⟨h.1.unsuite ok, h.2⟩
      | brk => exact h.imp fun _ h => h.imp fun _ h => ⟨h.1.unsuite ok, h.2⟩
      | cont => exact h.imp fun _ h => h.imp fun _ h => ⟨h.1.unsuite ok, h.2⟩
      | ret u => exact h.imp fun _ h => h.imp fun _ h => h.imp fun _ h => ⟨h.1.unsuite ok, h.2⟩
  | @named x n c i ts b₀ suite np pos hds l hc hN hi hl hsu r ih =>
    rintro s L ⟨b, hb, yes, no⟩
    have ok := L.inv.ok
    refine wpAny_handleBy_cons (codeAny_handlers_test (L.class_ hf hc ((L.matches_ hb).here ?_))) (by intro q; cases q)
    cases b with
    | false => exact ih L (no rfl)
    | true =>
      refine codeAny_handlers_suite_as (L.again fun s1 L1 => ?_)
      obtain ⟨oe, hz, hd, _, S⟩ := L1.suite hf
      refine store_ok (X := X.suite a ((a, oe) :: (X.pn ++ pins))) (v := .ref a) S hN hi (.inl hl) rfl (fun s2 S2 => ?_) (.inr hl)
      refine wpAny_mono ((hsu a oe cls d (X.pn ++ pins) hz hd).run [] _ _ H _ S2 (yes rfl a L.na)) (fun fl s3 h => ?_) fun _ _ z => z.elim
      cases fl with
      | next => exact let ⟨σ', H', S3, q⟩ := h; gone_ok (S3.unsuite ok) hN hi hl fun s4 J => ⟨_, _, J, q⟩
      | brk => exact let ⟨σ', H', S3, q⟩ := h; gone_ok (S3.unsuite ok) hN hi hl fun s4 J => ⟨_, _, J, q⟩
      | cont => exact let ⟨σ', H', S3, q⟩ := h; gone_ok (S3.unsuite ok) hN hi hl fun s4 J => ⟨_, _, J, q⟩
      | ret u => exact let ⟨v, σ', H', S3, rv, q⟩ := h; gone_ok (S3.unsuite ok) hN hi hl fun s4 J => ⟨v, _, _, J, rv, q⟩
theorem ps_tryC {body : List Stmt} {h₀ : ExceptHandler} {hds : List ExceptHandler} {l : List Cl} {pos : Pos} {tb : WX → TS} (hs : X.stack = X.env :: X.outer) (hf : X.env.frame = some X.env.locals) (tk : Takes X W)
    (hb : ∀ W' pn xe, Takes (X.tr pn xe) W' → PassesOwn (model X.prog X.w) X.A X.env xe → PSs (X.tr pn xe) body (tb W')) (hh : ClsOk X (h₀ :: hds) l) :
    PS X (.Try body (h₀ :: hds) [] [] pos) (fun D σ H => tb (wCl X.K W D l) D σ H) := by
  refine ⟨fun pins s σ H D I h => wpAny_Try_except (wpAny_mono ((hb (wCl X.K W D l) (X.pn ++ pins) _ (fun u s' x => ?_) PassesOwn.looking).run [] s σ H D (I.toTry _) h) (fun fl s1 q => ?_) fun e s1 he => he)⟩
  · obtain ⟨a, B, sI, pins', σ', H', cls, d, rfl, J, nb, up, sky, na, os, ag, w⟩ := x
    exact Sky.land Zc.steady (by rw [I.ok.frames, hs]) hf (hs ▸ sky) fun h' fl u => Landed.clauses hs hf tk hh ⟨J.ofTry I.ok, nb, up.trans u, fl, os, ag, na⟩ w
  · cases fl with
    | next => exact let ⟨σ', H', J, q⟩ := q; wpAny_execs_nil ⟨σ', H', J.ofTry I.ok, q⟩
    | brk => exact let ⟨σ', H', J, q⟩ := q; ⟨σ', H', J.ofTry I.ok, q⟩
    | cont => exact let ⟨σ', H', J, q⟩ := q; ⟨σ', H', J.ofTry I.ok, q⟩
    | ret u => exact let ⟨v, σ', H', J, r, q⟩ := q; ⟨v, σ', H', J.ofTry I.ok, r, q⟩
end
end Iv
end
section
set_option Elab.async false
set_option linter.all false
set_option maxRecDepth 100000
set_option maxHeartbeats 4000000
/-! Iv.X3: try, its suites, by meanings. -/
namespace Iv
open PySem PySem.Spec PyProof.Rows L2

/-! ### meanings -/
inductive Cz where
  | bare (cn : Str) (g : Env → SM)
  | named (cn : Str) (i : Nat) (g : Exc → Env → SM)
/-- which class an except clause takes: cs are the classes that may fly, all right under InviteError -/
def matchX (cs : List Str) (x : Exc) (cn : Str) : Option Bool := if cs.contains x.cls then some (decide (x.cls = cn) || decide (cn = "InviteError")) else none
def noEx (p : Fl × Env) : SM := match p.1 with
  | .ex _ => fail
  | _ => ret p
def runCz (cs : List Str) : List Cz → Exc → Env → SM
  | [], x, ρ => ret (.ex x, ρ)
  | .bare cn g :: r, x, ρ => match matchX cs x cn with
    | some true => bnd (g ρ) noEx
    | some false => runCz cs r x ρ
    | none => fail
  | .named cn i g :: r, x, ρ => match matchX cs x cn with
    | some true => if i < ρ.length then bnd (g x (ρ.set i none)) (fun p => bnd (noEx p) fun p => ret (p.1, p.2.set i none)) else fail
    | some false => runCz cs r x ρ
    | none => fail
def sTry (cs : List Str) (b : Env → SM) (l : List Cz) : Env → SM := fun ρ => bnd (b ρ) fun p => match p.1 with
  | .ex x => runCz cs l x p.2
  | _ => ret p
/-- the except clauses' look at classes -/
structure XMs (K : PySem.W.Frag) (cs : List Str) : Prop where
  m : ∀ x ∈ cs, ∀ c ∈ ("InviteError" : Str) :: cs, PySem.W.exmOne K (.ref (He.ga K x)) (.ref (He.ga K c)) = some (decide (x = c) || decide (c = "InviteError"))

/-! ### readings in a suite -/
section
variable (K : PySem.W.Frag) (w : World) (i : Nat) (a : Addr) (cls : Value) (d : Option Addr)
def rdX (f : Exc → Env → M R) : TE := fun σ H Q => σ[i]? = some (some (.ref a)) ∧ ∃ x Z μ st ρ, Cells K w Z μ st H ∧ RS K w (Fb Z μ) μ H ρ σ ∧ RX K w (Fb Z μ) H x cls d ∧ Sat K w WX0 Z μ H σ (f x ρ st) fun r _ μ' H' => ∀ v, RR K w (Fb Z μ') μ' H' r v → Q v H'
def rdXA (f : Exc → Env → M (List R)) : TA := fun σ H Q => σ[i]? = some (some (.ref a)) ∧ ∃ x Z μ st ρ, Cells K w Z μ st H ∧ RS K w (Fb Z μ) μ H ρ σ ∧ RX K w (Fb Z μ) H x cls d ∧ Sat K w WX0 Z μ H σ (f x ρ st) fun r _ μ' H' => ∀ v, RRs K w (Fb Z μ') μ' H' r v → Q v H'
def rdXT (f : Exc → Env → M Bool) : TT := fun σ H Q => σ[i]? = some (some (.ref a)) ∧ ∃ x Z μ st ρ, Cells K w Z μ st H ∧ RS K w (Fb Z μ) μ H ρ σ ∧ RX K w (Fb Z μ) H x cls d ∧ Sat K w WX0 Z μ H σ (f x ρ st) fun b _ _ H' => Q b H'
def rdXS (f : Exc → Env → SM) : TS := fun D σ H => σ[i]? = some (some (.ref a)) ∧ ∃ x Z μ st ρ, Cells K w Z μ st H ∧ RS K w (Fb Z μ) μ H ρ σ ∧ RX K w (Fb Z μ) H x cls d ∧ Sat K w WX0 Z μ H σ (f x ρ st) (PostS K w WX0 Z D)
end
section
variable {K : PySem.W.Frag} {w : World} {i : Nat} {a : Addr} {cls : Value} {d : Option Addr} {Z : Addr → Prop} {μ μ' : List Addr} {st : Sto} {H H' : Hp} {σ : L2.St} {ρ : Env} {x : Exc} {β : Type}
theorem RX.nx (n : Nx μ H μ' H') (h : RX K w (Fb Z μ) H x cls d) : RX K w (Fb Z μ') H' x cls d := h.mono n.kp fun d us e hn => n.fr d _ e fun q => hn (.inl q)
theorem RX.xd {F : Addr → Prop} {dd : Addr} (h : RX K w F H x cls (some dd)) : ∃ us, H dd = some (.xd us) := by
  cases h with
  | mk e _ _ => exact ⟨_, e⟩
theorem RX.cls_ {F : Addr → Prop} (h : RX K w F H x cls d) : cls = .ref (He.ga K x.cls) := by cases h <;> rfl
theorem rdX_step {f : Exc → Env → M R} {k : R → M β} {P : β → Sto → List Addr → Hp → Prop} {Q : VK} (hi : σ[i]? = some (some (.ref a))) (c : Cells K w Z μ st H) (s : RS K w (Fb Z μ) μ H ρ σ) (rx : RX K w (Fb Z μ) H x cls d) (h : Sat K w WX0 Z μ H σ (bnd (f x ρ) k st) P)
    (hk : ∀ r1 st1 μ1 H1 v1, Nx μ H μ1 H1 → Cells K w Z μ1 st1 H1 → RS K w (Fb Z μ1) μ1 H1 ρ σ → RX K w (Fb Z μ1) H1 x cls d → RR K w (Fb Z μ1) μ1 H1 r1 v1 → Sat K w WX0 Z μ1 H1 σ (k r1 st1) P → Q v1 H1) : rdX K w i a cls d f σ H Q :=
  ⟨hi, x, Z, μ, st, ρ, c, s, rx, h.bnd.mono fun r1 st1 μ1 H1 nx c1 q v1 rv => hk r1 st1 μ1 H1 v1 nx c1 (s.nx nx) (rx.nx nx) rv q⟩
theorem rdXA_step {f : Exc → Env → M (List R)} {k : List R → M β} {P : β → Sto → List Addr → Hp → Prop} {Q : List V → Hp → Prop} (hi : σ[i]? = some (some (.ref a))) (c : Cells K w Z μ st H) (s : RS K w (Fb Z μ) μ H ρ σ) (rx : RX K w (Fb Z μ) H x cls d) (h : Sat K w WX0 Z μ H σ (bnd (f x ρ) k st) P)
    (hk : ∀ r1 st1 μ1 H1 v1, Nx μ H μ1 H1 → Cells K w Z μ1 st1 H1 → RS K w (Fb Z μ1) μ1 H1 ρ σ → RX K w (Fb Z μ1) H1 x cls d → RRs K w (Fb Z μ1) μ1 H1 r1 v1 → Sat K w WX0 Z μ1 H1 σ (k r1 st1) P → Q v1 H1) : rdXA K w i a cls d f σ H Q :=
  ⟨hi, x, Z, μ, st, ρ, c, s, rx, h.bnd.mono fun r1 st1 μ1 H1 nx c1 q v1 rv => hk r1 st1 μ1 H1 v1 nx c1 (s.nx nx) (rx.nx nx) rv q⟩
theorem rdXT_step {f : Exc → Env → M Bool} {k : Bool → M β} {P : β → Sto → List Addr → Hp → Prop} {Q : Bool → Hp → Prop} (hi : σ[i]? = some (some (.ref a))) (c : Cells K w Z μ st H) (s : RS K w (Fb Z μ) μ H ρ σ) (rx : RX K w (Fb Z μ) H x cls d) (h : Sat K w WX0 Z μ H σ (bnd (f x ρ) k st) P)
    (hk : ∀ r1 st1 μ1 H1, Nx μ H μ1 H1 → Cells K w Z μ1 st1 H1 → RS K w (Fb Z μ1) μ1 H1 ρ σ → RX K w (Fb Z μ1) H1 x cls d → Sat K w WX0 Z μ1 H1 σ (k r1 st1) P → Q r1 H1) : rdXT K w i a cls d f σ H Q :=
  ⟨hi, x, Z, μ, st, ρ, c, s, rx, h.bnd.mono fun r1 st1 μ1 H1 nx c1 q => hk r1 st1 μ1 H1 nx c1 (s.nx nx) (rx.nx nx) q⟩
end
/-- what the suite's parts compute, of the exception too -/
def xFld (cn f : Str) : Exc → Env → M R := fun x _ => ofO (if x.cls = cn then (x.fs.lookup f).map .w else none)
def xIs (cn : Str) (b : Bool) : Exc → Env → M R := fun x _ => if x.cls = cn then ret (.w (.bl b)) else fail
def xOf {α : Type} (f : Env → M α) : Exc → Env → M α := fun _ => f
def xCons (f : Exc → Env → M R) (g : Exc → Env → M (List R)) : Exc → Env → M (List R) := fun x => aCons (f x) (g x)
def xLst (g : Exc → Env → M (List R)) : Exc → Env → M R := fun x => eLst (g x)
def xIf (t : Exc → Env → M Bool) (a b : Exc → Env → M R) : Exc → Env → M R := fun x => eIf (t x) (a x) (b x)
def xTest (f : Exc → Env → M R) : Exc → Env → M Bool := fun x => tV (f x)
def xSet (j : Nat) (f : Exc → Env → M R) : Exc → Env → SM := fun x ρ => bnd (f x ρ) fun r => ret (.nx, ρ.set j (some r))
section
variable {X : Cx} {a : Addr} {oe : Obj} {cls : Value} {d : Option Addr} {pn : List (Addr × Obj)} {i : Nat}
theorem x_of {e : Expr} {f : Env → M R} (h : QE (Cx.suite X a ((a, oe) :: pn)) WX0 e f) : PE (Cx.suite X a ((a, oe) :: pn)) e (rdX X.K X.w i a cls d (xOf f)) := h.imp fun σ H Q ⟨_, x, Z, μ, st, ρ, c, s, _, q⟩ => ⟨Z, μ, st, ρ, c, s, q⟩
theorem x_anil : PA (Cx.suite X a ((a, oe) :: pn)) [] (rdXA X.K X.w i a cls d (xOf aNil)) := pa_nil.imp fun σ H Q ⟨_, x, Z, μ, st, ρ, c, s, _, q⟩ => q.ok c _ .nil
theorem x_acons {e : Expr} {es : List Expr} {f : Exc → Env → M R} {g : Exc → Env → M (List R)} (h : PE (Cx.suite X a ((a, oe) :: pn)) e (rdX X.K X.w i a cls d f)) (h2 : PA (Cx.suite X a ((a, oe) :: pn)) es (rdXA X.K X.w i a cls d g)) (hs : starEach (e :: es) (Cx.suite X a ((a, oe) :: pn)).env = (false, eval e (Cx.suite X a ((a, oe) :: pn)).env) :: starEach es (Cx.suite X a ((a, oe) :: pn)).env := by rfl) : PA (Cx.suite X a ((a, oe) :: pn)) (e :: es) (rdXA X.K X.w i a cls d (xCons f g)) :=
  (pa_cons h h2 hs).imp fun σ H Q h => by
    obtain ⟨hi, x, Z, μ, st, ρ, c, s, rx, q⟩ := h
    refine rdX_step (f := f) hi c s rx q fun r1 st1 μ1 H1 v1 n1 c1 s1 rx1 rv1 q1 => ?_
    refine rdXA_step (f := g) hi c1 s1 rx1 q1 fun r2 st2 μ2 H2 v2 n2 c2 s2 _ rv2 q2 => ?_
    exact q2.ok c2 _ (.cons (rv1.nx n2) rv2)
theorem x_lst {es : List Expr} {g : Exc → Env → M (List R)} {pos : Pos} (h : PA (Cx.suite X a ((a, oe) :: pn)) es (rdXA X.K X.w i a cls d g)) : PE (Cx.suite X a ((a, oe) :: pn)) (.List es pos) (rdX X.K X.w i a cls d (xLst g)) := (pe_lst h).imp fun σ H Q h => by
  obtain ⟨hi, x, Z, μ, st, ρ, c, s, rx, q⟩ := h
  refine rdXA_step (f := g) hi c s rx q fun rs st1 μ1 H1 vs n1 c1 s1 _ rv1 q1 => ?_
  obtain ⟨r, er, q2⟩ := q1.ofO
  obtain ⟨hf, er⟩ := ite_some' er
  obtain ⟨ws, ew, rfl⟩ := Option.map_eq_some_iff.mp er
  exact ⟨by rw [← rv1.length]; exact fits_le hf, fun p hp => q2 _ _ (Nx.new hp) (c1.new hp) _ (RR.newLst c1 hp (rv1.ws ew))⟩
theorem x_test {e : Expr} {f : Exc → Env → M R} (h : PE (Cx.suite X a ((a, oe) :: pn)) e (rdX X.K X.w i a cls d f)) (he : ∀ whole, isTrue e (Cx.suite X a ((a, oe) :: pn)).env whole = (do let v ← whole; standAt e.pos; holding [v] (truthy v)) := by intro _; rfl) : PT (Cx.suite X a ((a, oe) :: pn)) e (rdXT X.K X.w i a cls d (xTest f)) :=
  (pt_val h he).imp fun σ H Q h => by
    obtain ⟨hi, x, Z, μ, st, ρ, c, s, rx, q⟩ := h
    refine rdX_step (f := f) hi c s rx q fun r1 st1 μ1 H1 v1 n1 c1 s1 _ rv1 q1 => ?_
    obtain ⟨b, eb, q2⟩ := q1.ofO
    rw [asB_bl eb] at rv1
    exact ⟨b, rv1.bl, q2.ok c1⟩
theorem x_if {t e1 e2 : Expr} {ft : Exc → Env → M Bool} {fa fb : Exc → Env → M R} {pos : Pos} (ht : PT (Cx.suite X a ((a, oe) :: pn)) t (rdXT X.K X.w i a cls d ft)) (ha : PE (Cx.suite X a ((a, oe) :: pn)) e1 (rdX X.K X.w i a cls d fa)) (hb : PE (Cx.suite X a ((a, oe) :: pn)) e2 (rdX X.K X.w i a cls d fb)) : PE (Cx.suite X a ((a, oe) :: pn)) (.IfExp t e1 e2 pos) (rdX X.K X.w i a cls d (xIf ft fa fb)) :=
  (pe_ifExp ht ha hb).imp fun σ H Q h => by
    obtain ⟨hi, x, Z, μ, st, ρ, c, s, rx, q⟩ := h
    refine rdXT_step (f := ft) hi c s rx q fun k st1 μ1 H1 n1 c1 s1 rx1 q1 => ?_
    cases k with
    | true => exact (if_pos rfl : (if true = true then rdX X.K X.w i a cls d fa σ H1 Q else rdX X.K X.w i a cls d fb σ H1 Q) = _) ▸ ⟨hi, x, Z, μ1, st1, ρ, c1, s1, rx1, q1⟩
    | false => exact (if_neg Bool.false_ne_true : (if false = true then rdX X.K X.w i a cls d fa σ H1 Q else rdX X.K X.w i a cls d fb σ H1 Q) = _) ▸ ⟨hi, x, Z, μ1, st1, ρ, c1, s1, rx1, q1⟩
/-- e.f -/
theorem x_fld {cn f n : Str} {p pos : Pos} (T : XfC X.K (He.ga X.K cn)) (hno : PySem.W.findIn X.K (.ref (He.ga X.K cn)) f = some none) (hz : Zc cls d oe) (hf : ∃ vs, oe.data = .fields vs) (hv : PE (Cx.suite X a ((a, oe) :: pn)) (.Name n p) (tVar i)) (hb : attributeBase (.Name n p) f X.env (eval (.Name n p) X.env) = eval (.Name n p) X.env := by rfl) :
    PE (Cx.suite X a ((a, oe) :: pn)) (.Attribute (.Name n p) f pos) (rdX X.K X.w i a cls d (xFld cn f)) :=
  (pe_xf T hno hz hf hv hb).imp fun σ H Q h => by
    obtain ⟨hi, x, Z, μ, st, ρ, c, s, rx, q⟩ := h
    obtain ⟨r, er, q2⟩ := q.ofO
    obtain ⟨hc, er⟩ := ite_some'' er
    obtain ⟨y, ey, rfl⟩ := Option.map_eq_some_iff.mp er
    have q3 := q2.ok c
    refine ⟨_, hi, rfl, ?_⟩
    cases rx with
    | no e => rw [e] at ey; cases ey
    | mk e1 e2 e3 =>
      obtain ⟨v, ev, rv⟩ := e3 f y ey
      exact ⟨by rw [hc], _, _, v, rfl, e1, ev, q3 v (.w rv)⟩
/-- isinstance(e, T) -/
def rIsX (K : PySem.W.Frag) (d : Option Addr) (C T a : Addr) : List V → Hp → VK → Prop := fun xs H Q => ∃ b, xs = [.ref a, .ref T] ∧ (∀ dd, d = some dd → ∃ us, H dd = some (.xd us)) ∧ PySem.W.kitOne K (.ref C) (.ref T) = some b ∧ Q (.bl b) H
theorem call_isX {C T : Addr} (E : ExcC X.K C) (hz : Zc (.ref C) d oe) (hf : ∃ vs, oe.data = .fields vs) : CallR (Cx.suite X a ((a, oe) :: pn)) (.builtin "isinstance") (rIsX X.K d C T a) := by
  intro pins s σ H xs us Q I r h
  obtain ⟨b, rfl, hd, e, q⟩ := h
  cases r with
  | cons rx rr => cases rr with
    | cons rt rr =>
      cases rr; cases rx; cases rt
      obtain ⟨hget, _⟩ := I.pin (a, oe) (List.mem_append.mpr (.inl List.mem_cons_self))
      obtain ⟨vs, hv⟩ := hf
      have J : ∃ od, PySem.W.InstAt s.heap a oe C od := by
        cases d with
        | none => exact ⟨none, hget, hz.1, by unfold PySem.W.notCls; rw [hv] <;> rfl, by rw [hz.2]; trivial⟩
        | some dd =>
          obtain ⟨us, hu⟩ := hd dd rfl
          obtain ⟨mA, ⟨o, es, ep, ho, _⟩, _⟩ : ObjOk X.prog X.w H s.heap dd (.xd us) := I.hok dd _ hu
          exact ⟨some o, hget, hz.1, by unfold PySem.W.notCls; rw [hv] <;> rfl, by rw [hz.2]; exact ho⟩
      obtain ⟨od, J⟩ := J
      exact PySem.W.kia_one (PySem.W.kitx_exc (by obtain ⟨cd, hc, _⟩ := PySem.W.any_some E.hd; rw [hc]; rfl) E.hg E.hk E.hs E.ha E.hn E.ht E.hm) I.kIn J e (fun z => nomatch z) fun tk => ⟨.bl b, H, I.kept (t' := tk) fun _ _ z => z, rfl, q⟩
theorem x_is {cn T n : Str} {b : Bool} {p p1 p2 pos : Pos} (E : ExcC X.K (He.ga X.K cn)) (hk : PySem.W.kitOne X.K (.ref (He.ga X.K cn)) (.ref (He.ga X.K T)) = some b) (hz : Zc cls d oe) (hf : ∃ vs, oe.data = .fields vs) (hi : X.mg "isinstance" = none) (hgi : Gl (Cx.suite X a ((a, oe) :: pn)) "isinstance") (hv : PE (Cx.suite X a ((a, oe) :: pn)) (.Name n p1) (tVar i)) (hg : Gl (Cx.suite X a ((a, oe) :: pn)) T) (hm : X.mg T = some (.ref (He.ga X.K T)))
    (hdb : (T == ("__debug__" : Str)) = false := by decide) (h1 : starEach [.Name n p1, .Name T p2] (Cx.suite X a ((a, oe) :: pn)).env = (false, eval (.Name n p1) (Cx.suite X a ((a, oe) :: pn)).env) :: starEach [.Name T p2] (Cx.suite X a ((a, oe) :: pn)).env := by rfl)
    (hpl : (backTo pos (starEach [.Name T p2] (Cx.suite X a ((a, oe) :: pn)).env)).any (·.1) = false := by rfl) :
    PE (Cx.suite X a ((a, oe) :: pn)) (.Call (.Name "isinstance" p) [.Name n p1, .Name T p2] [] pos) (rdX X.K X.w i a cls d (xIs cn b)) := by
  refine ⟨fun pins s σ H Q I h => ?_⟩
  obtain ⟨hs, x, Z, μ, st, ρ, c, sr, rx, q⟩ := h
  by_cases hx : x.cls = cn
  · have q' : Sat X.K X.w WX0 Z μ H σ ((if x.cls = cn then ret (R.w (.bl b)) else fail) st) _ := q
    rw [if_pos hx] at q'
    have ec : cls = .ref (He.ga X.K cn) := by rw [← hx]; exact rx.cls_
    subst ec
    refine (pe_callB (t := tCons (tVar i) (tCons (tC (.ref (He.ga X.K T))) tNil)) (call_isX (T := He.ga X.K T) E hz hf) hgi hi boot_isinstance (pa_cons hv (pa_cons (pe_glob hg hm (show RelV (.ref _) (.ref _) from rfl) hdb) pa_nil))).run pins s σ H Q I ?_
    refine ⟨_, hs, b, rfl, fun dd e => ?_, hk, q'.ok c _ (.w (.bl b))⟩
    subst e
    exact rx.xd
  · have q' : Sat X.K X.w WX0 Z μ H σ ((if x.cls = cn then ret (R.w (.bl b)) else fail) st) _ := q
    rw [if_neg hx] at q'
    exact False.elim q'
theorem x_set {j : Nat} {y : Str} {e : Expr} {f : Exc → Env → M R} {pos pos' : Pos} (hN : X.N.Nodup) (hj : X.N[j]? = some y) (hx : Loc X.env.scope y) (h : PE (Cx.suite X a ((a, oe) :: pn)) e (rdX X.K X.w i a cls d f)) (hs : swapsWith e (some (.Name y pos')) pos.line X.env = pure false := by rfl)
    (hf : X.fn y = true ∨ X.env.scope.names.lookup y = some .local := by first | exact .inl rfl | exact .inr rfl | assumption) : PS (Cx.suite X a ((a, oe) :: pn)) (.Assign [.Name y pos'] e pos) (rdXS X.K X.w i a cls d (xSet j f)) := (ps_set (X := (Cx.suite X a ((a, oe) :: pn))) hN hj hx h hs hf).imp fun D σ H h => by
  obtain ⟨hi, x, Z, μ, st, ρ, c, s, rx, q⟩ := h
  exact rdX_step (f := f) (k := fun r => ret (Fl.nx, ρ.set j (some r))) hi c s rx q fun r1 st1 μ1 H1 v1 n1 c1 s1 _ rv1 q1 => (q1.ok c1 : ∀ σ', _ → _) _ (s1.set j rv1)
end

/-! ### try -/
section
variable {X : Cx} {E : WX}
def Cz.cl (K : PySem.W.Frag) (w : World) : Cz → Cl
  | .bare cn g => (.ref (He.ga K cn), none, fun _ _ _ => rdS K w WX0 g)
  | .named cn i g => (.ref (He.ga K cn), some i, fun a cls d => rdXS K w i a cls d g)
def Cz.cn : Cz → Str
  | .bare cn _ => cn
  | .named cn _ _ => cn
inductive QCls (X : Cx) : List ExceptHandler → List Cz → Prop
  | nil : QCls X [] []
  | bare {cn : Str} {g : Env → SM} {b₀ : Stmt} {suite : List Stmt} {np pos : Pos} {hds : List ExceptHandler} {l : List Cz} (hg : Gl X cn) (hm : X.mg cn = some (.ref (He.ga X.K cn))) (hdb : (cn == ("__debug__" : Str)) = false)
      (hsu : ∀ a oe pn, QSs (X.suite a ((a, oe) :: pn)) WX0 (b₀ :: suite) g) (r : QCls X hds l) : QCls X (.ExceptHandler (some (.Name cn np)) none (b₀ :: suite) pos :: hds) (.bare cn g :: l)
  | named {cn n : Str} {i : Nat} {g : Exc → Env → SM} {b₀ : Stmt} {suite : List Stmt} {np pos : Pos} {hds : List ExceptHandler} {l : List Cz} (hg : Gl X cn) (hm : X.mg cn = some (.ref (He.ga X.K cn))) (hdb : (cn == ("__debug__" : Str)) = false) (hN : X.N.Nodup) (hi : X.N[i]? = some n) (hl : X.env.kindOf n = some .local)
      (hsu : ∀ a oe cls d pn, Zc cls d oe → (∃ vs, oe.data = .fields vs) → PSs (X.suite a ((a, oe) :: pn)) (b₀ :: suite) (rdXS X.K X.w i a cls d g)) (r : QCls X hds l) : QCls X (.ExceptHandler (some (.Name cn np)) (some n) (b₀ :: suite) pos :: hds) (.named cn i g :: l)
theorem QCls.ok : ∀ {hds : List ExceptHandler} {l : List Cz}, QCls X hds l → ClsOk X hds (l.map (Cz.cl X.K X.w))
  | _, _, .nil => .nil
  | _, _, .bare hg hm hdb hsu r => .bare ⟨hg, hdb, .inl hm⟩ (fun a oe _ _ pn _ _ => hsu a oe pn) r.ok
  | _, _, .named hg hm hdb hN hi hl hsu r => .named ⟨hg, hdb, .inl hm⟩ hN hi hl hsu r.ok
theorem RS.setN {K : PySem.W.Frag} {w : World} {F : Addr → Prop} {μ : List Addr} {H : Hp} {ρ : Env} {σ : L2.St} (h : RS K w F μ H ρ σ) (i : Nat) (o : Option V) : RS K w F μ H (ρ.set i none) (σ.set i o) := by
  refine ⟨by simp [h.len], fun j r e => ?_⟩
  by_cases hj : i = j
  · subst hj
    by_cases hi : i < ρ.length
    · rw [List.getElem?_set_self hi] at e; cases e
    · rw [List.getElem?_eq_none (by simpa using hi)] at e; cases e
  · rw [List.getElem?_set_ne hj] at e ⊢
    exact h.at_ j r e
theorem noEx_sat {K : PySem.W.Frag} {w : World} {Z : Addr → Prop} {μ : List Addr} {H : Hp} {σ : L2.St} {st : Sto} {p : Fl × Env} {D : Ends} (c : Cells K w Z μ st H) (h : Sat K w WX0 Z μ H σ (noEx p st) (PostS K w E Z D)) : PostS K w WX0 Z D p st μ H := by
  obtain ⟨fl, ρ⟩ := p
  cases fl with
  | ex x => exact False.elim h
  | nx => exact Sat.ok (E := WX0) (σ := σ) (k := PostS K w E Z D) c h
  | bk => exact Sat.ok (E := WX0) (σ := σ) (k := PostS K w E Z D) c h
  | ct => exact Sat.ok (E := WX0) (σ := σ) (k := PostS K w E Z D) c h
  | rt r => exact Sat.ok (E := WX0) (σ := σ) (k := PostS K w E Z D) c h
theorem unD_post {K : PySem.W.Frag} {w : World} {Z : Addr → Prop} {μ : List Addr} {H : Hp} {st : Sto} {p : Fl × Env} {D : Ends} {i : Nat} (h : PostS K w WX0 Z D (p.1, p.2.set i none) st μ H) : PostS K w WX0 Z (unD (some i) D) p st μ H := by
  obtain ⟨fl, ρ⟩ := p
  cases fl with
  | ex x => exact fun σ' cls d s r => h (σ'.set i none) cls d (s.unset i) r
  | nx => exact fun σ' s => h (σ'.set i none) (s.unset i)
  | bk => exact fun σ' s => h (σ'.set i none) (s.unset i)
  | ct => exact fun σ' s => h (σ'.set i none) (s.unset i)
  | rt r => exact h
theorem WX0.sat {K : PySem.W.Frag} {w : World} {Z : Addr → Prop} {μ : List Addr} {H : Hp} {σ σ' : L2.St} {α : Type} {r : Res α} {k : α → Sto → List Addr → Hp → Prop} (h : Sat K w WX0 Z μ H σ r k) : Sat K w WX0 Z μ H σ' r k := by
  cases r with
  | ok a st => exact h
  | exc x st => exact h
  | bad => exact h
theorem cl_read {cs : List Str} {K : PySem.W.Frag} {w : World} (xm : XMs K cs) {Z : Addr → Prop} {μ : List Addr} {H : Hp} {σ0 : L2.St} {D : Ends} {x : Exc} {cls : Value} {d : Option Addr} : ∀ {l : List Cz}, (∀ z ∈ l, z.cn ∈ ("InviteError" : Str) :: cs) → ∀ {st : Sto} {ρ : Env} {σ : L2.St}, Cells K w Z μ st H → RS K w (Fb Z μ) μ H ρ σ → RX K w (Fb Z μ) H x cls d → Sat K w WX0 Z μ H σ0 (runCz cs l x ρ st) (PostS K w E Z D) → wCl K E D (l.map (Cz.cl K w)) cls d σ H
  | [], _, st, ρ, σ, c, s, rx, h => (h.ok c : ∀ σ' cls d, _ → _ → _) σ cls d s rx
  | .bare cn g :: r, hl, st, ρ, σ, c, s, rx, h => by
    have h' : Sat K w WX0 Z μ H σ0 ((match matchX cs x cn with | some true => bnd (g ρ) noEx | some false => runCz cs r x ρ | none => fail) st) (PostS K w E Z D) := h
    unfold matchX at h'
    by_cases hc : cs.contains x.cls = true
    · rw [if_pos hc] at h'
      have em := xm.m x.cls (by simpa using hc) cn (hl (.bare cn g) List.mem_cons_self)
      refine ⟨_, by rw [rx.cls_]; exact em, fun hb a na => ?_, fun hb => ?_⟩
      · rw [hb] at h'
        exact ⟨Z, μ, st, ρ, c, s, WX0.sat (h'.bnd.mono fun p st1 μ1 H1 n1 c1 q => noEx_sat c1 q)⟩
      · rw [hb] at h'
        exact cl_read xm (fun z hz => hl z (List.mem_cons_of_mem _ hz)) c s rx h'
    · rw [if_neg hc] at h'
      exact False.elim h'
  | .named cn i g :: r, hl, st, ρ, σ, c, s, rx, h => by
    have h' : Sat K w WX0 Z μ H σ0 ((match matchX cs x cn with | some true => if i < ρ.length then bnd (g x (ρ.set i none)) (fun p => bnd (noEx p) fun p => ret (p.1, p.2.set i none)) else fail | some false => runCz cs r x ρ | none => fail) st) (PostS K w E Z D) := h
    unfold matchX at h'
    by_cases hc : cs.contains x.cls = true
    · rw [if_pos hc] at h'
      have em := xm.m x.cls (by simpa using hc) cn (hl (.named cn i g) List.mem_cons_self)
      refine ⟨_, by rw [rx.cls_]; exact em, fun hb a na => ?_, fun hb => ?_⟩
      · rw [hb] at h'
        obtain ⟨hi, h2⟩ := Sat.ite h'
        refine ⟨by show (σ.set i _)[i]? = _; rw [List.getElem?_set_self (by rw [← s.len]; exact hi)], x, Z, μ, st, ρ.set i none, c, s.setN i _, rx, WX0.sat (h2.bnd.mono fun p st1 μ1 H1 n1 c1 q => unD_post ?_)⟩
        have q' := q.bnd
        obtain ⟨fl, ρ1⟩ := p
        cases fl with
        | ex x => exact False.elim q'
        | nx => exact noEx_sat (p := (.nx, _)) c1 (q'.ok c1)
        | bk => exact noEx_sat (p := (.bk, _)) c1 (q'.ok c1)
        | ct => exact noEx_sat (p := (.ct, _)) c1 (q'.ok c1)
        | rt r => exact noEx_sat (p := (.rt r, _)) c1 (q'.ok c1)
      · rw [hb] at h'
        exact cl_read xm (fun z hz => hl z (List.mem_cons_of_mem _ hz)) c s rx h'
    · rw [if_neg hc] at h'
      exact False.elim h'
theorem q_try {cs : List Str} {body : List Stmt} {h₀ : ExceptHandler} {hds : List ExceptHandler} {gb : Env → SM} {l : List Cz} {pos : Pos} (hs : X.stack = X.env :: X.outer) (hf : X.env.frame = some X.env.locals) (tk : Takes X E) (xm : XMs X.K cs)
    (hb : ∀ W pn xe, Takes (X.tr pn xe) W → PassesOwn (model X.prog X.w) X.A X.env xe → QSs (X.tr pn xe) W body gb) (hh : QCls X (h₀ :: hds) l) (hl : ∀ z ∈ l.map Cz.cn, z ∈ ("InviteError" : Str) :: cs) :
    QS X E (.Try body (h₀ :: hds) [] [] pos) (sTry cs gb l) :=
  (ps_tryC (tb := fun W => rdS X.K X.w W gb) hs hf tk hb hh.ok).imp fun D σ H h => by
    obtain ⟨Z, μ, st, ρ, c, s, q⟩ := h
    refine ⟨Z, μ, st, ρ, c, s, q.bnd.mono fun p st1 μ1 H1 n1 c1 q1 => ?_⟩
    obtain ⟨fl, ρ1⟩ := p
    cases fl with
    | ex x => exact fun σ' cls d s1 rx => cl_read xm (fun z hz => hl _ (List.mem_map_of_mem hz)) c1 s1 rx q1
    | nx => exact Sat.ok (E := WX0) (σ := σ) (k := PostS X.K X.w E Z D) c1 q1
    | bk => exact Sat.ok (E := WX0) (σ := σ) (k := PostS X.K X.w E Z D) c1 q1
    | ct => exact Sat.ok (E := WX0) (σ := σ) (k := PostS X.K X.w E Z D) c1 q1
    | rt r => exact Sat.ok (E := WX0) (σ := σ) (k := PostS X.K X.w E Z D) c1 q1
end
end Iv
end
section
set_option Elab.async false
set_option linter.all false
set_option maxRecDepth 100000
set_option maxHeartbeats 4000000
/-! Iv.G1: defs that are called where no repr is under way; repr(x), str(x) of plain data. -/
namespace Iv
open PySem PySem.Spec PyProof.Rows L2

/-- a promise kept wherever no repr is under way -/
structure FnOkG (P : Program) (w : World) (K : PySem.W.Frag) (mg : Str → Option Value) (base : Heap) (k : Nat) (f : Addr) (fd : FuncData) (ps : List Str) (sp : Sp) : Prop where
  len : ∀ vs H Q E, sp vs H Q E → vs.length = ps.length
  run : ∀ (A : Around) (outer : List PySem.Env) (s : Shared) (H : Hp) (args : Args) (us : List Value) (vs : List V) (Q : VK) (E : XK), A.guards = some [] → Room k A → Env0 P w K mg base A outer s H → BindsTo s fd args (ps.zip us) → Vals vs us → sp vs H Q E →
    codeAny (model P w) A (.call (.ref f) args) (CR (L2.CX P w) outer P w H s Q E) s
structure FnG (P : Program) (w : World) (K : PySem.W.Frag) (mg : Str → Option Value) (base : Heap) (f : Addr) (k n : Nat) (F : List R → M R) : Prop where
  ex : ∃ fd ps, Binds K fd ps [] ∧ ps.length = n ∧ FnOkG P w K mg base k f fd ps (spF K w n F)
  kp : PySem.W.keepIn K (.ref f) = true
section
variable {P : Program} {w : World} {K : PySem.W.Frag} {mg : Str → Option Value} {base : Heap} {f : Addr} {fd : FuncData} {k n : Nat}
theorem FnQ.g {F : List R → M R} (h : FnQ P w K mg base f k n F) : FnG P w K mg base f k n F :=
  let ⟨fd, ps, hb, hl, ok⟩ := h.ex
  ⟨⟨fd, ps, hb, hl, ok.len, fun A outer s H args us vs Q E _ => ok.run A outer s H args us vs Q E⟩, h.kp⟩
theorem CE.of {X : Cx} {σ : L2.St} {H' : Hp} {s' : Shared} {v : V} {u : Value} {Q : VK} (hx : X.ex = []) (J : Inv X [] σ H' s') (rv : RelV v u) (q : Q v H') : CE X.outer X.prog X.w X.H_0 X.s_0 Q u s' :=
  ⟨v, H', J.os, J.bare, hx ▸ J.base, J.hok, rv, q⟩
/-- a def by its body -/
theorem okG {x qual : Str} {params : Arguments} {body : List Stmt} {scope : Scope} {dvs : List V} {kws : List (Str × V)} {N ps : List Str} {sp : Sp} (F : FunD K x qual params body scope dvs kws f fd) (S : FnScope N ps scope) (len : ∀ vs H Q E, sp vs H Q E → vs.length = ps.length)
    (hbody : ∀ (cdv : Value) (A : Around) (outer : List PySem.Env) (s : Shared) (H : Hp) (vs : List V) (Q : VK) (E : XK), A.guards = some [] → Room k (A.deeper (envOfC qual scope s.heap.objs.size f cdv)) → sp vs H Q E →
      ∃ t, PSs (cxOf (L2.CX P w) P w K mg base N qual scope f cdv A outer s H E) body t ∧ t { nx := fun _ H' => Q .non H', rt := Q } (start N vs) H) : FnOkG P w K mg base (k + 1) f fd ps sp := by
  obtain ⟨oc, od, dV, kV, doc, pm, an, cdv, ct, osl, rfl, lk, hcd, _, _⟩ := F.ex
  refine ⟨len, fun A outer s H args us vs Q E hG hr e0 hb rel h => ?_⟩
  have old : ∀ b o, base.get? b = some o → s.heap.get? b = some o := fun b o e => (e0.bs b o e).1
  have KX : K.In s.heap := e0.mod.kin.keeps old
  refine codeAny_call_function hr.depth (KX _ _ lk) rfl S.co S.gen rfl (PySem.W.codeRec_of KX hcd) (hb _ _ _ _ (wpAny_newFunctionEnv_cells S.kind (fun y hy => ?_) fun env he s1 x => ?_))
  · exact (S.par y.1 (List.of_mem_zip (a := y.1) (b := y.2) hy).1).imp id fun q => ⟨q, PySem.W.cellsFrom_some _ _ _ (.inl q)⟩
  · subst he
    obtain ⟨t, ht, hq⟩ := hbody cdv A outer s H vs Q E hG (hr.deeper _) h
    refine ⟨(e0.mod.nolimit.keeps old).keeps x.toInCall.keep, codeAny_func (wpAny_mono (ht.run [] s1 (start N vs) H _ (inv_start S hr.hd e0 (len _ _ _ _ h) rel x) hq) (fun fl s' hs => ?_) fun e s' z => z)⟩
    cases fl with
    | ret u => exact let ⟨v, _, _, J, rv, q⟩ := hs; CE.of rfl J rv q
    | next => exact let ⟨_, _, J, q⟩ := hs; CE.of (v := .non) (u := .none) rfl J rfl q
    | brk => exact let ⟨_, _, _, q⟩ := hs; q.elim
    | cont => exact let ⟨_, _, _, q⟩ := hs; q.elim
theorem FnG.mk' {x qual : Str} {params : Arguments} {body : List Stmt} {scope : Scope} {N ps : List Str} {m : Nat} {g : Env → SM} (F : FunD K x qual params body scope [] [] f fd) (S : FnScope N ps scope) (hn : N.length = n) (hb : Binds K fd ps []) (hl : ps.length = m)
    (hbody : ∀ (cdv : Value) (A : Around) (outer : List PySem.Env) (s : Shared) (H : Hp) (E : XK), A.guards = some [] → Room k (A.deeper (envOfC qual scope s.heap.objs.size f cdv)) → QSs (cxOf (L2.CX P w) P w K mg base N qual scope f cdv A outer s H E) (fun cls d _ H => E cls d H) body g) :
    FnG P w K mg base f (k + 1) m (runB n g) := by
  subst hl
  refine ⟨⟨fd, ps, hb, rfl, okG F S (fun vs H Q E h => h.1) fun cdv A outer s H vs Q E hG hr h => ?_⟩, F.kp⟩
  obtain ⟨hl, Z, μ, st, rs, c, r, q⟩ := h
  refine ⟨_, hbody cdv A outer s H E hG hr, Z, μ, st, rs.map some ++ List.replicate (n - rs.length) none, c, hn ▸ RS.start r N, ?_⟩
  unfold runB at q
  cases e : g (rs.map some ++ List.replicate (n - rs.length) none) st with
  | bad => rw [e] at q; exact q
  | exc x st' => rw [e] at q; exact q.elim
  | ok p st' =>
    obtain ⟨fl, ρ'⟩ := p
    rw [e] at q
    cases fl with
    | rt r => exact q
    | nx => exact fun μ' H' nx c' σ' _ => q μ' H' nx c' .non (.w .non)
    | bk => exact q.elim
    | ct => exact q.elim
    | ex x => exact fun μ' H' nx c' σ' cls d _ rx => q μ' H' cls d nx c' rx
end
abbrev FnXG (X : Cx) (f : Addr) (k n : Nat) (F : List R → M R) : Prop := FnG X.prog X.w X.K X.mg X.base f k n F
section
variable {X : Cx} {E : WX} {k n : Nat} {f : Addr} {fd : FuncData} {ps : List Str} {sp : Sp}
theorem run_g {pins : List (Addr × Obj)} {σ : L2.St} {H : Hp} {s : Shared} {Q : VK} {us : List Value} {vs : List V} {E : XK} (F : FnOkG X.prog X.w X.K X.mg X.base k f fd ps sp) (hG : X.A.guards = some []) (hr : Room k X.A) (hb : Binds X.K fd ps []) (hx : PassesAt (L2.CX X.prog X.w) X σ E) (I : Inv X pins σ H s) (r : Vals vs us) (h : sp vs H Q E) :
    wpAny (model X.prog X.w) X.A (call (.ref f) us) (EP X pins σ Q) X.xe s := by
  have hl : us.length = ps.length := r.length.symm.trans (F.len _ _ _ _ h)
  have bt := hb s us I.kIn (by rw [List.append_nil]; exact hl)
  rw [List.append_nil] at bt
  refine wpAny_call (codeAny_mono (F.run X.A X.stack s H ⟨us, []⟩ us vs Q E hG hr I.env0 bt r h) fun fl s' hq => ?_)
  match fl, hq with
  | .error e, hq => exact hx pins H s e s' I hq
  | .ok (.ret u), hq => exact I.after hq
  | .ok .next, hq => exact hq.elim
  | .ok .brk, hq => exact hq.elim
  | .ok .cont, hq => exact hq.elim
variable {x : Str} {F : List R → M R} {g : Env → M (List R)} {e : Expr} {es : List Expr} {p pos : Pos} {t : TA}
theorem pe_callG {E : L2.St → XK} (F : FnOkG X.prog X.w X.K X.mg X.base k f fd ps sp) (hG : X.A.guards = some []) (hr : Room k X.A) (hg : Gl X x) (hm : X.mg x = some (.ref f)) (hk : PySem.W.keepIn X.K (.ref f) = true) (hb : Binds X.K fd ps []) (hx : ∀ σ, PassesAt (L2.CX X.prog X.w) X σ (E σ)) (ha : PA X (e :: es) t)
    (hdb : (x == ("__debug__" : Str)) = false := by decide) (he : starEach (e :: es) X.env = (false, eval e X.env) :: starEach es X.env := by rfl) (hpl : (backTo pos (starEach es X.env)).any (·.1) = false := by rfl) :
    PE X (.Call (.Name x p) (e :: es) [] pos) (fun σ H Q => t σ H fun vs H1 => sp vs H1 Q (E σ)) :=
  ⟨fun pins s σ H Q I h => wpAny_Call_Name_kw (ld_glob I hg hm (PySem.W.callWith_K (h₀ := X.base) I.ok.mod.kin hk (thn (ha.run pos pins s σ H _ I h) fun us s1 ⟨vs, H1, I1, r, q⟩ => ⟨I1.kIn, run_g F hG hr hb (hx σ) I1 r q⟩) he hpl) hdb)⟩
theorem q_callG (G : FnXG X f k n F) (hG : X.A.guards = some []) (hr : Room k X.A) (hg : Gl X x) (hm : X.mg x = some (.ref f)) (tk : Takes X E) (ha : QA X E (e :: es) g)
    (hdb : (x == ("__debug__" : Str)) = false := by decide) (he : starEach (e :: es) X.env = (false, eval e X.env) :: starEach es X.env := by rfl) (hpl : (backTo pos (starEach es X.env)).any (·.1) = false := by rfl) : QE X E (.Call (.Name x p) (e :: es) [] pos) (eCall n F g) := by
  obtain ⟨⟨fd, ps, hb, hl, ok⟩, kp⟩ := G
  exact (pe_callG (E := WE E) ok hG hr hg hm kp hb (fun σ => passAt tk σ) ha hdb he hpl).imp fun σ H Q ⟨Z, μ, st, ρ, c, s, q⟩ => rdA_step (f := g) c s q fun rs st1 μ1 H1 vs n1 c1 s1 rv1 q1 => sp_shared c1 rv1 q1
theorem q_callPG (G : FnXG X f k n F) (hG : X.A.guards = some []) (hr : Room k X.A) (hg : Gl X x) (hm : X.mg x = some (.ref f)) (tk : Takes X E) (ha : QA X E (e :: es) g)
    (hdb : (x == ("__debug__" : Str)) = false := by decide) (he : starEach (e :: es) X.env = (false, eval e X.env) :: starEach es X.env := by rfl) (hpl : (backTo pos (starEach es X.env)).any (·.1) = false := by rfl) : QE X E (.Call (.Name x p) (e :: es) [] pos) (eCallP n F g) := by
  obtain ⟨⟨fd, ps, hb, hl, ok⟩, kp⟩ := G
  exact (pe_callG (E := WE E) ok hG hr hg hm kp hb (fun σ => passAt tk σ) ha hdb he hpl).locks.imp fun σ H Q ⟨Z, μ, st, ρ, c, s, q⟩ => rdA_step (f := g) c s q fun rs st1 μ1 H1 vs n1 c1 s1 rv1 q1 => sp_pure c1 rv1 q1
end

/-! ### repr(x), str(x) -/
/-- the text of plain data -/
def shownW (x : W) : Option Str := match x.data with
  | some p => if p.showable && decide (p.depth ≤ 32) && fits p.shown.length then some p.shown else none
  | none => none
def reprR (st : Sto) (xs : List R) : Option R := match xs with
  | [x] => match wOf st x with
    | some y => (shownW y).map fun z => .w (.str z)
    | none => none
  | _ => none
/-- str(x): of texts, ints as ever; of tuples and lists as repr -/
def strR2 (st : Sto) (xs : List R) : Option R := match xs with
  | [x] => match wOf st x with
    | some (.tup ys) => (shownW (.tup ys)).map fun z => .w (.str z)
    | some (.lst ys) => (shownW (.lst ys)).map fun z => .w (.str z)
    | some (.str z) => some (.w (.str z))
    | _ => strR st xs
  | _ => none
section
variable {X : Cx}
theorem shownW_some {x : W} {z : Str} (h : shownW x = some z) : ∃ p, x.data = some p ∧ p.showable = true ∧ p.depth ≤ 32 ∧ p.shown.length ≤ sizeLine ∧ z = p.shown := by
  unfold shownW at h
  cases e : x.data with
  | none => rw [e] at h; cases h
  | some p =>
    rw [e] at h
    obtain ⟨h1, h2⟩ := ite_some h
    obtain ⟨h3, h4⟩ := Bool.and_eq_true_iff.mp h1
    obtain ⟨h5, h6⟩ := Bool.and_eq_true_iff.mp h3
    exact ⟨p, rfl, h5, of_decide_eq_true h6, fits_le h4, h2.symm⟩
mutual
theorem data_noDict : ∀ (x : W) (p : PyData), x.data = some p → p.hasDict = false
  | .non, _, e => by cases e; rfl
  | .bl _, _, e => by cases e; rfl
  | .int _, _, e => by cases e; rfl
  | .str _, _, e => by cases e; rfl
  | .tup xs, _, e => by
    simp only [W.data, Option.map_eq_some_iff] at e
    obtain ⟨ps, e1, rfl⟩ := e
    exact datas_noDict xs ps e1
  | .lst xs, _, e => by
    simp only [W.data, Option.map_eq_some_iff] at e
    obtain ⟨ps, e1, rfl⟩ := e
    exact datas_noDict xs ps e1
  | .dic _ _, _, e => by cases e
  | .ins _ _, _, e => by cases e
  | .fn _, _, e => by cases e
  | .ty _, _, e => by cases e
  | .scr _, _, e => by cases e
theorem datas_noDict : ∀ (xs : List W) (ps : List PyData), W.datas xs = some ps → PyData.hasDictAll ps = false
  | [], _, e => by cases e; rfl
  | x :: xs, ps, e => by
    simp only [W.datas] at e
    split at e
    · rename_i q qs e1 e2
      cases e
      rw [PyData.hasDictAll, data_noDict x q e1, datas_noDict xs qs e2]; rfl
    · cases e
end
/-- what is read is shown -/
theorem repr_reads {A : Around} {E : Value → Shared → Prop} {s : Shared} {u : Value} {p : PyData} {as : List Addr} {Q : Value → Shared → Prop} (hG : A.guards = some []) (hu : A.units + 64 < cLine) (r : Reads s.heap u p as) (h1 : p.showable = true) (h2 : p.depth ≤ 32) (h3 : p.shown.length ≤ sizeLine) (hd : p.hasDict = false)
    (h : ∀ h' t tk, (∀ b o, s.heap.get? b = some o → h'.get? b = some o) → Q (.str p.shown t) { s with heap := h', toks := tk }) : wpAny (model X.prog X.w) A (call (.builtin "repr") [u]) Q E s := by
  cases u with
  | ref a => exact repr_of_reads' r h1 (PyData.noDict_hsm hd) hG (by omega) (fun _ _ e => e) h h3
  | none => cases r; exact P.repr_of_none (h s.heap _ _ fun _ _ e => e)
  | bool b => cases r; exact P.repr_of_bool (h s.heap _ _ fun _ _ e => e)
  | int i t => cases r; exact P.repr_of_int (of_decide_eq_true h1) (h s.heap _ _ fun _ _ e => e)
  | str x t => cases r; exact P.repr_of_str (h s.heap _ _ fun _ _ e => e) h3
  | _ => cases r
theorem cq_repr (hG : X.A.guards = some []) (hu : X.A.units + 64 < cLine) : CallR X (.builtin "repr") (rdC X.K X.w reprR) := by
  intro pins s σ H xs us Q I r h
  obtain ⟨Z, μ, st, rs, r0, c, rr, e, q⟩ := h
  unfold reprR at e
  split at e
  · rename_i x
    split at e
    · rename_i y ey
      obtain ⟨z, ez, rfl⟩ := Option.map_eq_some_iff.mp e
      obtain ⟨p, hp, h1, h2, h3, rfl⟩ := shownW_some ez
      cases rr with
      | cons ra rb =>
        cases rb
        cases r with
        | cons rx rn =>
          cases rn
          obtain ⟨as, rd⟩ := Dp.reads I p _ _ (ra.dp c ey hp) rx
          exact repr_reads hG hu rd h1 h2 h3 (data_noDict y p hp) fun h' t tk k => ⟨.str p.shown, H, I.kept (t' := tk) k, ⟨t, rfl⟩, q _ _ (Nx.refl _ _) c (.w (.str _))⟩
    · cases e
  · cases e
theorem cq_str2 (hG : X.A.guards = some []) (hu : X.A.units + 64 < cLine) : CallR X (.type "str") (rdC X.K X.w strR2) := by
  intro pins s σ H xs us Q I r h
  obtain ⟨Z, μ, st, rs, r0, c, rr, e, q⟩ := h
  have plain : ∀ {x : R}, rs = [x] → strR st [x] = some r0 → wpAny (model X.prog X.w) X.A (call (.type "str") us) (EP X pins σ Q) X.xe s := fun {x} er e' => cq_str pins s σ H xs us Q I r ⟨Z, μ, st, rs, r0, c, rr, er ▸ e', q⟩
  have deep : ∀ {x : R} {y : W} {z : Str}, rs = [x] → wOf st x = some y → (∃ ys, y = .tup ys ∨ y = .lst ys) → shownW y = some z → r0 = .w (.str z) → wpAny (model X.prog X.w) X.A (call (.type "str") us) (EP X pins σ Q) X.xe s := fun {x y z} er ey hy ez e0 => by
    subst er e0
    obtain ⟨p, hp, h1, h2, h3, rfl⟩ := shownW_some ez
    cases rr with
    | cons ra rb =>
      cases rb
      cases r with
      | cons rx rn =>
        cases rn
        rename_i u
        obtain ⟨as, rd⟩ := Dp.reads I p _ _ (ra.dp c ey hp) rx
        have hr : ∃ a, u = Value.ref a := by
          obtain ⟨ys, rfl | rfl⟩ := hy
          · simp only [W.data, Option.map_eq_some_iff] at hp
            obtain ⟨ps, _, rfl⟩ := hp
            cases rd
            exact ⟨_, rfl⟩
          · simp only [W.data, Option.map_eq_some_iff] at hp
            obtain ⟨ps, _, rfl⟩ := hp
            cases rd
            exact ⟨_, rfl⟩
        obtain ⟨a, rfl⟩ := hr
        exact str_of_reads rd h1 (PyData.noDict_hsm (data_noDict y p hp)) hG (by omega) (fun _ _ e => e) (fun h' t tk k => ⟨.str p.shown, H, I.kept (t' := tk) k, ⟨t, rfl⟩, q _ _ (Nx.refl _ _) c (.w (.str _))⟩) h3
  unfold strR2 at e
  split at e
  · rename_i x
    split at e
    · rename_i ys ey
      obtain ⟨z, ez, rfl⟩ := Option.map_eq_some_iff.mp e
      exact deep rfl ey ⟨ys, .inl rfl⟩ ez rfl
    · rename_i ys ey
      obtain ⟨z, ez, rfl⟩ := Option.map_eq_some_iff.mp e
      exact deep rfl ey ⟨ys, .inr rfl⟩ ez rfl
    · rename_i z ez
      cases e
      cases rr with
      | cons ra rb =>
        cases rb
        cases r with
        | cons rx rn =>
          cases rn
          have := ra.strW c ez
          subst this
          obtain ⟨t, rfl⟩ := rx
          exact P.str_of_str ⟨.str z, H, I, ⟨t, rfl⟩, q _ _ (Nx.refl _ _) c (.w (.str _))⟩
    · exact plain rfl e
  · cases e
end
end Iv
end
section
set_option Elab.async false
set_option linter.all false
set_option maxRecDepth 100000
set_option maxHeartbeats 4000000
/-! Iv.G2: sorted of texts, len by an own __len__, unpacking. -/
namespace Iv
open PySem PySem.Spec PyProof.Rows L2

/-! ### sorted(texts) -/
def leS (x y : Str) : Bool := !ltCps y.cps.toList x.cps.toList
/-- by insertion -/
def insS (x : Str) : List Str → List Str
  | [] => [x]
  | y :: r => if leS x y then x :: y :: r else y :: insS x r
def sortS : List Str → List Str
  | [] => []
  | x :: r => insS x (sortS r)
theorem leS_iff {x y : Str} : leS x y = true ↔ x.cps.toList ≤ y.cps.toList := by
  unfold leS
  rw [ltCps_eq]
  simp
theorem leS_trans {x y z : Str} (h1 : leS x y = true) (h2 : leS y z = true) : leS x z = true := leS_iff.mpr (List.le_trans (leS_iff.mp h1) (leS_iff.mp h2))
theorem leS_total (x y : Str) : leS x y = true ∨ leS y x = true := by
  rcases List.le_total x.cps.toList y.cps.toList with h | h
  · exact .inl (leS_iff.mpr h)
  · exact .inr (leS_iff.mpr h)
theorem leS_antisymm {x y : Str} (h1 : leS x y = true) (h2 : leS y x = true) : x = y := by
  have := List.le_antisymm (leS_iff.mp h1) (leS_iff.mp h2)
  obtain ⟨a⟩ := x
  obtain ⟨b⟩ := y
  have e : a = b := by cases a; cases b; exact congrArg Array.mk this
  rw [e]
theorem insS_perm (x : Str) : ∀ l : List Str, (insS x l).Perm (x :: l)
  | [] => .refl _
  | y :: r => by
    unfold insS
    split
    · exact .refl _
    · exact ((insS_perm x r).cons y).trans (.swap x y r)
theorem sortS_perm : ∀ l : List Str, (sortS l).Perm l
  | [] => .refl _
  | x :: r => (insS_perm x (sortS r)).trans ((sortS_perm r).cons x)
theorem insS_sorted (x : Str) : ∀ l : List Str, l.Pairwise (leS · ·) → (insS x l).Pairwise (leS · ·)
  | [], _ => by simp [insS]
  | y :: r, h => by
    have h' := List.pairwise_cons.mp h
    unfold insS
    split
    · rename_i hx
      refine List.pairwise_cons.mpr ⟨fun z hz => ?_, h⟩
      rcases List.mem_cons.mp hz with e | e
      · subst e; exact hx
      · exact leS_trans hx (h'.1 z e)
    · rename_i hx
      have hyx : leS y x = true := (leS_total x y).resolve_left hx
      refine List.pairwise_cons.mpr ⟨fun z hz => ?_, insS_sorted x r h'.2⟩
      rcases List.mem_cons.mp ((insS_perm x r).mem_iff.mp hz) with e | e
      · subst e; exact hyx
      · exact h'.1 z e
theorem sortS_sorted : ∀ l : List Str, (sortS l).Pairwise (leS · ·)
  | [] => .nil
  | x :: r => insS_sorted x _ (sortS_sorted r)
theorem rising_pw : ∀ (l : List Str) (x : Str), risingS x l = true → (x :: l).Pairwise (leS · ·)
  | [], x, _ => by simp
  | y :: r, x, h => by
    obtain ⟨h1, h2⟩ := Bool.and_eq_true_iff.mp (show (!ltCps y.cps.toList x.cps.toList && risingS y r) = true from h)
    have ih := rising_pw r y h2
    refine List.pairwise_cons.mpr ⟨fun z hz => ?_, ih⟩
    rcases List.mem_cons.mp hz with e | e
    · subst e; exact h1
    · exact leS_trans h1 ((List.pairwise_cons.mp ih).1 z e)
theorem sortS_uniq {l m : List Str} (hp : m.Perm l) (hs : m.Pairwise (leS · ·)) : m = sortS l :=
  (hp.trans (sortS_perm l).symm).eq_of_pairwise (le := fun a b => leS a b = true) (fun a b _ _ h1 h2 => leS_antisymm h1 h2) hs (sortS_sorted l)
def sortedR (st : Sto) (xs : List R) : Option R := match xs with
  | [x] => match listOf st x with
    | some ws => match mapO strW ws with
      | some ss => if decide (ss.length < 64) then some (.w (.lst ((sortS ss).map W.str))) else none
      | none => none
    | none => none
  | _ => none
section
variable {X : Cx} {E : WX}
theorem cq_sorted : CallR X (.builtin "sorted") (rdC X.K X.w sortedR) := CallR.imp cr_sortedS fun xs H Q h => by
  obtain ⟨Z, μ, st, rs, r, c, rr, e, q⟩ := h
  unfold sortedR at e
  split at e
  · rename_i x
    split at e
    · rename_i ws ew
      split at e
      · rename_i ss es
        obtain ⟨hl, e⟩ := ite_some e
        subst e
        obtain ⟨v, rfl, rv⟩ := rr.one
        obtain ⟨a, us, rfl, h3, rvs⟩ := rv.listS c ew
        have eu := rvs.strs es
        subst eu
        refine ⟨a, ss, rfl, .of h3, of_decide_eq_true hl, fun ys p hp hs hn => ?_⟩
        have ey : ys = sortS ss := sortS_uniq hp (by
          cases ys with
          | nil => exact .nil
          | cons y r => exact rising_pw r y hs)
        subst ey
        exact q _ _ (Nx.new hn) (c.new hn) (RR.newLst c hn (RVs.ofStrs _))
      · cases e
    · cases e
  · cases e
end

/-! ### len(o) by an own __len__ -/
def eLenO (cn : Str) (F : List R → M R) (fo : Env → M R) : Env → M R := fun ρ => bnd (fo ρ) fun o st => if isIns cn "" st o then bnd (nox (F [o])) (fun r => match r with
  | .w (.int n) => if decide (0 ≤ n) && decide (n < 9223372036854775808) then ret (.w (.int n)) else fail
  | _ => fail) st else .bad
section
variable {X : Cx} {E : WX} {cn : Str} {f : Addr} {k : Nat} {F : List R → M R} {o : Expr} {fo : Env → M R} {p pos : Pos}
theorem call_lenO {C : Addr} {fd : FuncData} {ps : List Str} {sp : Sp} (at_ : PySem.W.findIn X.K (.ref C) "__len__" = some (some (.ref f))) (hf : PySem.W.isFn X.K (.ref f) = true) (F : FnOk X.prog X.w X.K X.mg X.base (L2.CX X.prog X.w) k f fd ps sp) (hr : Room (k + 1) X.A) (hb : Binds X.K fd ps []) :
    CallR X (.builtin "len") (fun xs H Q => ∃ a dx fs, xs = [.ref a] ∧ H a = some (.ins C dx fs) ∧ sp [.ref a] H (fun v H' => ∃ n : Int, v = .int n ∧ 0 ≤ n ∧ n < 2 ^ 63 ∧ Q v H') fun _ _ _ => False) := by
  intro pins s σ H xs us Q I r h
  obtain ⟨a, dx, fs, rfl, ea, h⟩ := h
  rw [Vals.ref1 r]
  obtain ⟨mA, O, _, _, _, _⟩ := ins_get I.hok ea
  obtain ⟨od, J, _⟩ := O.look
  obtain ⟨m, fr⟩ := I.fr
  have hl : ([Value.ref a] ++ []).length = ps.length := F.len _ _ _ _ h
  refine PySem.W.len_K fr I.ok.mod.kin J at_ hf (wpAny_call (codeAny_mono (F.run X.A.in1 X.stack s H ⟨[.ref a], []⟩ [.ref a] [.ref a] _ _ hr.in1 I.env0.in1 (hb s [.ref a] I.kIn hl) (.cons rfl .nil) h) fun fl s' hq => ?_))
  match fl, hq with
  | .error e, hq => exact (passes_no (Y := X.nox) pins σ H s e s' (I.wish _) hq).elim
  | .ok (.ret u), hq =>
    obtain ⟨v, H', I3, rv, n, rfl, h0, h1, q⟩ := I.after hq
    obtain ⟨t, rfl⟩ := rv
    exact ⟨⟨h0, h1⟩, .int n, H', I3.tok _, ⟨_, rfl⟩, q⟩
  | .ok .next, hq => exact hq.elim
  | .ok .brk, hq => exact hq.elim
  | .ok .cont, hq => exact hq.elim
theorem q_lenO (G : FnX X f k 1 F) (hr : Room (k + 1) X.A) (at_ : PySem.W.findIn X.K (.ref (He.ga X.K cn)) "__len__" = some (some (.ref f))) (hf : PySem.W.isFn X.K (.ref f) = true) (hg : Gl X "len") (hm : X.mg "len" = none) (ho : QE X E o fo)
    (hs : starEach [o] X.env = (false, eval o X.env) :: starEach [] X.env := by rfl) (hpl : (backTo pos (starEach [] X.env)).any (·.1) = false := by rfl) : QE X E (.Call (.Name "len" p) [o] [] pos) (eLenO cn F fo) := by
  obtain ⟨⟨fd, ps, hb, hl, ok⟩, kp⟩ := G
  refine (pe_callB (t := tCons (rd X.K X.w E fo) tNil) (call_lenO at_ hf ok hr hb) hg hm boot_len (pa_cons ho pa_nil hs) (by decide) (by decide) hs hpl).imp fun σ H Q h => ?_
  obtain ⟨Z, μ, st, ρ, c, s, q⟩ := h
  refine rd_step (f := fo) c s q fun r1 st1 μ1 H1 v1 n1 c1 s1 rv1 q1 => ?_
  by_cases hi : isIns cn "" st1 r1 = true
  · simp only [hi, if_true] at q1
    obtain ⟨a, dx, us, rfl, h1, _⟩ := rv1.isIns c1 hi
    refine ⟨a, dx, us, rfl, h1, ?_⟩
    have q2 := Sat.nox (E := E) q1.bnd
    refine sp_shared (E := WX0) (σ := σ) (rs := [r1]) c1 (.cons rv1 .nil) ?_
    rw [if_pos (show ([r1] : List R).length = 1 from rfl)]
    refine q2.mono fun r st2 μ2 H2 n2 c2 q3 v rv => ?_
    split at q3
    · rename_i n
      by_cases hb' : (decide (0 ≤ n) && decide (n < 9223372036854775808)) = true
      · rw [if_pos hb'] at q3
        obtain ⟨h2, h3⟩ := Bool.and_eq_true_iff.mp hb'
        have ev : v = .int n := by cases rv with | w h => cases h; rfl
        exact ⟨n, ev, of_decide_eq_true h2, by have := of_decide_eq_true h3; omega, q3.ok c2 v rv⟩
      · rw [if_neg hb'] at q3
        exact q3.elim
    · exact q3.elim
  · simp only [hi] at q1
    exact False.elim q1
/-! ### a, b = e -/
def sUnp (f : Env → M R) (g : R → Env → Option Env) : Env → SM := fun ρ => bndS ρ (f ρ) fun r => bnd (ofO (g r ρ)) fun ρ' => ret (.nx, ρ')
theorem q_unp {tg e : Expr} {f : Env → M R} {slots : List Nat} {g : R → Env → Option Env} {pos : Pos} (he : QE X E e f) (hg : QG X tg slots g) (hs : swapsWithSole [tg] e pos.line X.env = pure false := by rfl) (hw : swappedStores [tg] e X.env = pure none := by rfl)
    (h1 : (assignEach [tg] X.env).map (·.2) = [assign tg X.env] := by rfl) : QS X E (.Assign [tg] e pos) (sUnp f g) := (ps_asg he hg hs hw h1).imp fun D σ H h => by
  obtain ⟨Z, μ, st, ρ, c, s, q⟩ := h
  refine rdS_step (f := f) (k := fun r => bnd (ofO (g r ρ)) fun ρ' => ret (.nx, ρ')) c s q fun r1 st1 μ1 H1 v1 n1 c1 s1 rv1 q1 => ?_
  obtain ⟨ρ', e', q2⟩ := q1.bnd.ofO
  exact ⟨Z, μ1, st1, ρ, r1, ρ', c1, s1, rv1, e', fun σ' s' _ => ((q2.ok c1).ok c1 : ∀ σ', _ → _) σ' s'⟩
end
end Iv
end
section
set_option Elab.async false
set_option linter.all false
set_option maxRecDepth 100000
set_option maxHeartbeats 4000000
/-! Iv.Gen2: what the printed texts use, further. -/
namespace Iv
open PySem PySem.Spec PyProof.Rows L2
/-- an exception class's own __init__: no field, one, two -/
structure XQ0 (P : Program) (w : World) (K : PySem.W.Frag) (mg : Str → Option Value) (base : Heap) (cn : Str) : Prop where
  ex : ∃ fd ps, FnOk P w K mg base (L2.CX P w) 1 (He.ma K (He.ga K cn) "__init__") fd ps (spX0 K (He.ga K cn)) ∧ Binds K fd ps []
structure XQ1 (P : Program) (w : World) (K : PySem.W.Frag) (mg : Str → Option Value) (base : Heap) (cn f : Str) : Prop where
  ex : ∃ fd ps, FnOk P w K mg base (L2.CX P w) 1 (He.ma K (He.ga K cn) "__init__") fd ps (spX1 K (He.ga K cn) f) ∧ Binds K fd ps []
structure XQ2 (P : Program) (w : World) (K : PySem.W.Frag) (mg : Str → Option Value) (base : Heap) (cn f g : Str) : Prop where
  ex : ∃ fd ps, FnOk P w K mg base (L2.CX P w) 1 (He.ma K (He.ga K cn) "__init__") fd ps (spX2 K (He.ga K cn) f g) ∧ Binds K fd ps []
section
variable {X : Cx} {E : WX} {cn f g : Str} {p pos pos' : Pos} {e : Expr} {es : List Expr} {ga : Env → M (List R)}
theorem q_rs0 (T : XCls X.K cn) (F : XQ0 X.prog X.w X.K X.mg X.base cn) (hr : Room 2 X.A) (hg : Gl X cn) (hm : X.mg cn = some (.ref (He.ga X.K cn))) (hc : X.calm = true) (tk : Takes X E) (hdb : (cn == ("__debug__" : Str)) = false := by decide) :
    QS X E (.Raise (some (.Call (.Name cn p) [] [] pos)) none pos') (sRaise cn [] aNil) := let ⟨_, _, ok, hb⟩ := F.ex; q_raise0 T ok hr hb hg hm hc tk hdb
theorem q_rs1 (T : XCls X.K cn) (F : XQ1 X.prog X.w X.K X.mg X.base cn f) (hr : Room 2 X.A) (hg : Gl X cn) (hm : X.mg cn = some (.ref (He.ga X.K cn))) (hc : X.calm = true) (tk : Takes X E) (ha : QA X E (e :: es) ga) (hdb : (cn == ("__debug__" : Str)) = false := by decide)
    (he : starEach (e :: es) X.env = (false, eval e X.env) :: starEach es X.env := by rfl) (hpl : (backTo pos (starEach es X.env)).any (·.1) = false := by rfl) :
    QS X E (.Raise (some (.Call (.Name cn p) (e :: es) [] pos)) none pos') (sRaise cn [f] ga) := let ⟨_, _, ok, hb⟩ := F.ex; q_raise1 T ok hr hb hg hm hc tk ha hdb he hpl
theorem q_rs2 (T : XCls X.K cn) (F : XQ2 X.prog X.w X.K X.mg X.base cn f g) (hr : Room 2 X.A) (hg : Gl X cn) (hm : X.mg cn = some (.ref (He.ga X.K cn))) (hc : X.calm = true) (tk : Takes X E) (hff : f ≠ g) (ha : QA X E (e :: es) ga) (hdb : (cn == ("__debug__" : Str)) = false := by decide)
    (he : starEach (e :: es) X.env = (false, eval e X.env) :: starEach es X.env := by rfl) (hpl : (backTo pos (starEach es X.env)).any (·.1) = false := by rfl) :
    QS X E (.Raise (some (.Call (.Name cn p) (e :: es) [] pos)) none pos') (sRaise cn [f, g] ga) := let ⟨_, _, ok, hb⟩ := F.ex; q_raise2 T ok hr hb hg hm hc tk hff ha hdb he hpl
end
end Iv
end
section
set_option Elab.async false
set_option linter.all false
set_option maxRecDepth 100000
set_option maxHeartbeats 4000000
/-! Iv.E0: what the written part must say, as Bools. -/
namespace Iv
open PySem PySem.Spec PyProof.Rows L2 He
def ktB (K : PySem.W.Frag) (x : Str) (ys : List Str) : Bool := match K.lookup (He.ga K x) with
  | some ⟨.type c, _, .seq its _, _⟩ => decide (c = "tuple") && (decide (its.size ≤ sizeLine) && relAll (ys.map V.str) its.toList)
  | _ => false
theorem ktB_ok {K : PySem.W.Frag} {x : Str} {ys : List Str} (h : ktB K x ys = true) : KTup K x ys := by
  unfold ktB at h
  split at h
  · rename_i c d its n sl e
    obtain ⟨h1, h2⟩ := ba h
    obtain ⟨h3, h4⟩ := ba h2
    exact ⟨_, its, n, e, congrArg Value.type (of_decide_eq_true h1), rfl, of_decide_eq_true h3, relAll_ok h4⟩
  · cases h
/-- the property's getter -/
def getterOf (K : PySem.W.Frag) (C f : Str) : Addr := match PySem.W.recIn K (He.ma K (He.ga K C) f) "property" with
  | some (.ref g :: _) => g
  | _ => 0
def propB (K : PySem.W.Frag) (C f : Str) : Bool := eqO (PySem.W.findIn K (.ref (He.ga K C)) f) (some (some (.ref (He.ma K (He.ga K C) f)))) && (eqO (PySem.W.specialIn K (.ref (He.ma K (He.ga K C) f)) "__get__") (some (some (.builtin "property.__get__"))) &&
  (decide (PySem.W.takesIn K (.ref (He.ma K (He.ga K C) f)) = some true) && match PySem.W.recIn K (He.ma K (He.ga K C) f) "property" with
  | some (.ref _ :: _) => true
  | _ => false))
theorem propB_ok {K : PySem.W.Frag} {C f : Str} (h : propB K C f = true) : PropOf K (He.ga K C) f (He.ma K (He.ga K C) f) (getterOf K C f) := by
  obtain ⟨h1, h⟩ := ba h
  obtain ⟨h2, h⟩ := ba h
  obtain ⟨h3, h4⟩ := ba h
  refine ⟨eqO_ok h1, eqO_ok h2, of_decide_eq_true h3, ?_⟩
  unfold getterOf
  split at h4
  · rename_i g rest e
    exact ⟨rest, by rw [e]⟩
  · cases h4
/-- an own exception class -/
def oexB (K : PySem.W.Frag) (C : Addr) : Bool := (match K.lookup C with
  | some ⟨.type "type", _, .cls cd, sl⟩ => (match cd.mro, sl.toList with
    | .ref C' :: bm, [_, _, _, _, some (.builtin n), _] => decide (C' = C) && (decide (n = "ValueError.__new__") && (!cd.hasDel && (cd.hasDict && PySem.HandSPX.refsVE bm)))
    | _, _ => false)
  | _ => false) && (eqO (PySem.W.findIn K (.ref C) "__setattr__") (some (some (.builtin "object.__setattr__"))) && (decide (PySem.W.subIn K (.ref C) (.type "BaseException") = some true) && (decide (PySem.W.typeIn K (.ref C) = some (.type "type")) && PySem.W.keepIn K (.ref C))))
theorem oexB_ok {K : PySem.W.Frag} {C : Addr} (h : oexB K C = true) : OexC K C := by
  obtain ⟨h0, h⟩ := ba h
  obtain ⟨h1, h⟩ := ba h
  obtain ⟨h2, h⟩ := ba h
  obtain ⟨h3, h4⟩ := ba h
  refine ⟨?_, eqO_ok h1, of_decide_eq_true h2, of_decide_eq_true h3, h4⟩
  split at h0
  · rename_i dd cd sl e
    split at h0
    · rename_i C' bm k0 k1 k2 k3 n k5 em es
      obtain ⟨a1, a⟩ := ba h0
      obtain ⟨a2, a⟩ := ba a
      obtain ⟨a3, a⟩ := ba a
      obtain ⟨a4, a5⟩ := ba a
      obtain ⟨nm, bs, mro, ns, qn, hd, sn, sb, ab, col, del⟩ := cd
      have e1 : C' = C := of_decide_eq_true a1
      have e2 : n = "ValueError.__new__" := of_decide_eq_true a2
      have e3 : del = false := by cases del with | false => rfl | true => cases a3
      have e4 : hd = true := a4
      have e5 : mro = .ref C' :: bm := em
      subst e1 e2 e3 e4 e5
      have e6 : sl = #[k0, k1, k2, k3, some (.builtin "ValueError.__new__"), k5] := by
        cases sl
        exact congrArg Array.mk es
      subst e6
      exact ⟨_, _, _, _, bm, _, _, _, _, _, k0, k1, k2, k3, k5, e, a5⟩
    · cases h0
  · cases h0
def xclsB (K : PySem.W.Frag) (cn : Str) : Bool := oexB K (He.ga K cn) && (eqO (PySem.W.findIn K (.ref (He.ga K cn)) "__init__") (some (some (.ref (He.ma K (He.ga K cn) "__init__")))) && decide (PySem.W.typeIn K (.ref (He.ma K (He.ga K cn) "__init__")) = some (.type "function")))
theorem xclsB_ok {K : PySem.W.Frag} {cn : Str} (h : xclsB K cn = true) : XCls K cn := by
  obtain ⟨h1, h⟩ := ba h
  obtain ⟨h2, h3⟩ := ba h
  exact ⟨oexB_ok h1, eqO_ok h2, of_decide_eq_true h3⟩
def cfIsB (o : Option PySem.W.CFound) (id : String) : Bool := match o with
  | some (.val (.builtin n)) => decide (n = id)
  | _ => false
theorem cfIsB_ok {o : Option PySem.W.CFound} {id : String} (h : cfIsB o id = true) : o = some (.val (.builtin id)) := by
  unfold cfIsB at h
  split at h
  · rw [of_decide_eq_true h]
  · cases h
def xbaseB (K : PySem.W.Frag) (b : Str) : Bool := PySem.W.readsIn K (He.ga K b) (.type "type") && (eqO (PySem.W.specialIn K (.ref (He.ga K b)) "__getattribute__") (some (some (.builtin "type.__getattribute__"))) && cfIsB (PySem.W.findCls K (.ref (He.ga K b)) (.type "type") "__init__") "ValueError.__init__")
theorem xbaseB_ok {K : PySem.W.Frag} {b : Str} (h : xbaseB K b = true) : XBase K b := by
  obtain ⟨h1, h⟩ := ba h
  obtain ⟨h2, h3⟩ := ba h
  exact ⟨⟨h1, eqO_ok h2⟩, cfIsB_ok h3⟩
def xmsB (K : PySem.W.Frag) (cs : List Str) : Bool := cs.all fun x => (("InviteError" : Str) :: cs).all fun c => decide (PySem.W.exmOne K (.ref (He.ga K x)) (.ref (He.ga K c)) = some (decide (x = c) || decide (c = "InviteError")))
theorem xmsB_ok {K : PySem.W.Frag} {cs : List Str} (h : xmsB K cs = true) : XMs K cs := ⟨fun x hx c hc => of_decide_eq_true (List.all_eq_true.mp (List.all_eq_true.mp h x hx) c hc)⟩
def excB (K : PySem.W.Frag) (D : Addr) : Bool := eqO (PySem.W.findIn K (.ref D) "__getattribute__") (some (some (.builtin "BaseException.__getattribute__"))) && (eqO (PySem.W.findIn K (.ref D) "__getattr__") (some none) && (decide (PySem.W.subIn K (.ref D) (.type "BaseException") = some true) && (PySem.W.hasDictIn K D &&
  (eqO (PySem.W.findIn K (.ref D) "__class__") (some (some (.builtin "object.__class__"))) && (eqO (PySem.W.specialIn K (.builtin "object.__class__") "__get__") (some (some (.builtin "getset_descriptor.__get__"))) && (decide (PySem.W.takesIn K (.builtin "object.__class__") = some true) && decide (PySem.W.mroIn K D (.type "object") = some true)))))))
theorem excB_ok {K : PySem.W.Frag} {D : Addr} (h : excB K D = true) : ExcC K D := by
  obtain ⟨h1, h⟩ := ba h
  obtain ⟨h2, h⟩ := ba h
  obtain ⟨h3, h⟩ := ba h
  obtain ⟨h4, h⟩ := ba h
  obtain ⟨h5, h⟩ := ba h
  obtain ⟨h6, h⟩ := ba h
  obtain ⟨h7, h8⟩ := ba h
  exact ⟨eqO_ok h1, eqO_ok h2, of_decide_eq_true h3, h4, eqO_ok h5, eqO_ok h6, of_decide_eq_true h7, of_decide_eq_true h8⟩
def kitB (K : PySem.W.Frag) (c t : Str) (b : Bool) : Bool := decide (PySem.W.kitOne K (.ref (He.ga K c)) (.ref (He.ga K t)) = some b)
theorem kitB_ok {K : PySem.W.Frag} {c t : Str} {b : Bool} (h : kitB K c t b = true) : PySem.W.kitOne K (.ref (He.ga K c)) (.ref (He.ga K t)) = some b := of_decide_eq_true h

/-! ### defs by paths -/
structure DefP where
  at_ : PySem.W.Frag → Addr
  name : Str
  qual : Str
  params : Arguments
  body : List Stmt
  scope : Scope
def DefP.obs (K : PySem.W.Frag) (d : DefP) : FnW := match K.lookup (d.at_ K) with
  | some ⟨_, _, .func fd, _⟩ => some (fd.name, fd.qualname, fd.params, fd.body, fd.scope, fd.globals, fd.closure, fd.builtins)
  | _ => none
def DefP.val (d : DefP) : FnW := some (d.name, d.qual, d.params, .stmts d.body, d.scope, mainGlobals, [], builtinsNs)
def DefP.ok (K : PySem.W.Frag) (d : DefP) : Bool := PySem.W.keepIn K (.ref (d.at_ K)) && match K.lookup (d.at_ K) with
  | some ⟨_, _, .func fd, _⟩ => PySem.W.codeIn K fd.code d.qual && (dflB K fd.defaults [] && kwdB K fd.kwdefaults [])
  | _ => false
theorem DefP.fun_ {K : PySem.W.Frag} {d : DefP} (e : d.obs K = d.val) (c : d.ok K = true) : ∃ fd, FunD K d.name d.qual d.params d.body d.scope [] [] (d.at_ K) fd := by
  obtain ⟨kp, c⟩ := ba c
  unfold DefP.obs at e
  split at c
  · rename_i oc od fd osl q
    rw [q] at e
    obtain ⟨k1, k2⟩ := ba c
    obtain ⟨k3, k4⟩ := ba k2
    obtain ⟨n1, n2, n3, n4, n5, n6, n7, n8, n9, n10, n11, n12, n13, n14, n15⟩ := fd
    have e' := Option.some.inj e
    simp only [Prod.mk.injEq] at e'
    obtain ⟨rfl, rfl, rfl, rfl, rfl, rfl, rfl, rfl⟩ := e'
    exact ⟨_, ⟨oc, od, n8, n9, n10, n11, n12, n13, n14, osl, rfl, q, k1, dflB_ok k3, kwdB_ok k4⟩, kp⟩
  · cases c

/-! ### the Hook: the facts as one Bool, the defs -/
def asI (g : Addr → Option Obj) (n : Nat) : List Addr := asD g n ++ [cStatics]
abbrev AlI : Type := Bool × List FnW
def obsI (n : Nat) (ex : PySem.W.Frag → Bool) (fn : List DefP) (g : Addr → Option Obj) : AlI := let K := frG g (asI g n); (ex K && fn.all (DefP.ok K), fn.map (DefP.obs K))
structure SaysI (ex : PySem.W.Frag → Bool) (fn : List DefP) (K : PySem.W.Frag) : Prop where
  more : ex K = true
  defs : ∀ d ∈ fn, ∃ fd, FunD K d.name d.qual d.params d.body d.scope [] [] (d.at_ K) fd
theorem saysI_of {n : Nat} {ex : PySem.W.Frag → Bool} {fn : List DefP} {g : Addr → Option Obj} (e : obsI n ex fn g = (true, fn.map DefP.val)) : SaysI ex fn (frG g (asI g n)) := by
  have e1 : (ex (frG g (asI g n)) && fn.all (DefP.ok (frG g (asI g n)))) = true := congrArg Prod.fst e
  have e2 : fn.map (DefP.obs (frG g (asI g n))) = fn.map DefP.val := congrArg Prod.snd e
  obtain ⟨h1, h2⟩ := ba e1
  exact ⟨h1, fun d hd => DefP.fun_ (List.map_inj_left.mp e2 d hd) (List.all_eq_true.mp h2 d hd)⟩
def hookI (n : Nat) (ex : PySem.W.Frag → Bool) (fn : List DefP) : PySem.W.Hook where
  α := AlI
  obs := fun s => obsI n ex fn s.heap.get?
  val := fun _ => (true, fn.map DefP.val)
  says := fun _ h => ∃ K : PySem.W.Frag, K.In h ∧ SaysI ex fn K
  of := fun _ _ e => ⟨_, frG_in, saysI_of e⟩
  keeps := fun _ _ _ ⟨K, hK, c⟩ k => ⟨K, PySem.W.Frag.In.keeps hK k, c⟩
theorem obsI_eq {n : Nat} {ex : PySem.W.Frag → Bool} {fn : List DefP} {g : Addr → Option Obj} {s : Shared} (h : ∀ a, g a = s.heap.get? a) : obsI n ex fn g = (hookI n ex fn).obs s := by
  have e : g = s.heap.get? := funext h
  subst e
  rfl
end Iv
end
section
set_option Elab.async false
set_option linter.all false
set_option maxRecDepth 100000
set_option maxHeartbeats 4000000
/-! Iv.E1: a law's end: what the law's function computes of every script. -/
namespace Iv
open PySem PySem.Spec PyProof.Rows L2 He
def noListB (K : PySem.W.Frag) : Bool := K.all fun p => match p.2.cls with
  | .type n => !decide (n = "list")
  | _ => true
theorem noList {K : PySem.W.Frag} (h : noListB K = true) {a : Addr} {o : Obj} (e : K.lookup a = some o) : o.cls ≠ .type "list" := fun z => by
  have q := List.all_eq_true.mp h (a, o) (lookup_mem e)
  simp only [z] at q
  cases q
section
variable {P : Program} {w : World} {K : PySem.W.Frag} {mg mb : Str → Option Value} {k : Nat} {fa a : Addr} {s₁ : Shared} {vs : List Value} {ns : List Int} {G : List R → M R}
/-- the abstract heap: the script alone -/
def Hs (a : Addr) (o : Obj) (ns : List Int) : Hp := fun b => if b = a then some (.frz o (.lst (ns.map V.int))) else none
theorem Hs_at {o : Obj} : Hs a o ns a = some (.frz o (.lst (ns.map V.int))) := if_pos rfl
theorem Hs_ne {o : Obj} {b : Addr} (h : b ≠ a) : Hs a o ns b = none := if_neg h
theorem law_endG (KX : K.In s₁.heap) (nl : noListB K = true) (hns : s₁.heap.Ns mainGlobals mg) (hb : s₁.heap.Ns builtinsNs mb) (hbb : ∀ x : Str, x ≠ "__name__" → mb x = bootBuiltins x) (hlim : s₁.heap.NoLimit) (hg : s₁.gens = #[])
    (ha : s₁.heap.get? a = some { cls := .type "list", data := .seq vs.toArray }) (hi : IntsAre vs ns) (hl : ns.length ≤ sizeLine) (hr : Room k callerA) (F : ∀ base : Heap, K.In base → base.Ns mainGlobals mg → FnG P w K mg base fa k 1 G)
    (hlaw : ∃ st, G [.w (.scr ns)] [] = .ok (.w (.bl true)) st) :
    codeAny (model P w) callerA (.call (.ref fa) ⟨[.ref a], []⟩) (fun r s' => r = .ok (.ret (.bool true)) ∧ OldK s₁.heap s'.heap ∧ s'.os = s₁.os ∧ AllBare s'.gens) s₁ := by
  generalize hob : ({ cls := .type "list", data := .seq vs.toArray } : Obj) = ob at ha
  have cob : ob.cls = .type "list" := by rw [← hob]
  have dob : ob.data = .seq vs.toArray := by rw [← hob]
  have look : K.lookup a = none := by
    cases e : K.lookup a with
    | none => rfl
    | some o =>
      have z := (KX a o e).symm.trans ha
      cases z
      exact (noList nl e cob).elim
  let H := Hs a ob ns
  let base := hidT s₁.heap H
  have keep : ∀ {b o}, b ≠ a → s₁.heap.get? b = some o → base.get? b = some o := fun hb e => hidT_get e (Hs_ne hb)
  have nsk : ∀ {b m}, s₁.heap.Ns b m → base.Ns b m := fun {b m} ⟨o, es, ep, e, d, r⟩ => ⟨o, es, ep, keep (fun z => by
    subst z
    rw [ha] at e
    cases e
    rw [dob] at d
    cases d) e, d, r⟩
  have KB : K.In base := fun b o e => keep (fun z => by rw [z, look] at e; cases e) (KX b o e)
  have hok : HOk P w H s₁.heap := fun b o e => by
    by_cases hb' : b = a
    · subst hb'
      rw [show H b = _ from Hs_at] at e
      cases e
      exact ⟨ha, by rw [List.length_map]; exact hl, vs, _, vals_ints hi, by rw [ha, ← hob]⟩
    · rw [show H b = none from Hs_ne hb'] at e
      cases e
  have e0 : Env0 P w K mg base callerA [] s₁ H := ⟨rfl, ⟨KB, nsk hns, ⟨mb, nsk hb, hbb⟩, let ⟨mc, h1, h2⟩ := hlim; ⟨mc, nsk h1, h2⟩⟩, fun b o e => of_hidT e, Nat.le_of_eq (hidT_size _ _), trivial, fun b z => (nomatch z), hok, .of_eq hg⟩
  obtain ⟨⟨fd, ps, bd, hp, ok⟩, _⟩ := F base KB (nsk hns)
  obtain ⟨st, hl'⟩ := hlaw
  have c0 : Cells K w (fun _ => False) [] [] H := ⟨rfl, by simp, fun _ z => (nomatch z), fun _ z => z.elim, fun n c b e => by simp at e⟩
  have sp : spF K w 1 G [.ref a] H (fun v _ => v = .bl true) (fun _ _ _ => False) := by
    refine ⟨rfl, fun _ => False, [], [], [.w (.scr ns)], c0, .cons (.w (.scr Hs_at (fun z => z.elim (fun z => nomatch z) id))) .nil, ?_⟩
    rw [hl']
    exact fun μ' H' _ _ v rv => rv.bl
  refine codeAny_mono (ok.run callerA [] s₁ H ⟨[.ref a], []⟩ [.ref a] [.ref a] _ _ rfl hr e0 (bd s₁ [.ref a] KX hp.symm) (.cons rfl .nil) sp) fun r s' h => ?_
  match r, h with
  | .error e, h => obtain ⟨_, _, _, _, _, _, _, _, _, _, _, _, z⟩ := h; exact z.elim
  | .ok .next, h => exact h.elim
  | .ok .brk, h => exact h.elim
  | .ok .cont, h => exact h.elim
  | .ok (.ret u), h =>
    obtain ⟨v, H', os, bare, un, hok', rv, rfl⟩ := h
    cases rv
    refine ⟨rfl, OldK.of_keep fun b o e => ?_, os, bare⟩
    by_cases hb' : b = a
    · subst hb'
      have q := (hok' b _ (un.frzs b _ _ Hs_at)).1
      rw [ha] at e
      cases e
      exact q
    · exact un.keep b o e (Hs_ne hb') (fun z => nomatch z) (by simp)
end
theorem walk_G {l : PySem.W.OpenLaw} {n k : Nat} {q : Program} {loose : List Str} {XP : (Str → Option Value) → Heap → Prop} {YP : World → Heap → Prop} {d : DefRec} {G : List R → M R}
    (hn : l.most = some n) (hn2 : n ≤ sizeLine) (hdf : d.params.defaults = []) (hr : Room k callerA)
    (F : ∀ (w : World) (mg : Str → Option Value) (fa : Addr) (h : Heap), YP w h → h.Ns mainGlobals mg → mg d.name = some (.ref fa) → ∃ K : PySem.W.Frag, K.In h ∧ noListB K = true ∧ ∀ base : Heap, K.In base → base.Ns mainGlobals mg → FnG l.prog w K mg base fa k 1 G)
    (hlaw : ∀ ns : List Int, ns.length ≤ n → (∀ z ∈ ns, Builtin.Int.intBits z ≤ 1048576) → ∃ st, G [.w (.scr ns)] [] = .ok (.w (.bl true)) st) :
    PySem.W.WalkO q loose XP YP l.row.toRowW d [] (fun f vs => PySem.call f vs) := by
  refine Att.attach_callB hn hdf fun w s₀ s₁ mg mb fa o pm cd doc a vs ns G Y ho hd hcd hmg hobj hints hlen hbits hg => ?_
  obtain ⟨K, KX, nl, hF⟩ := F w mg fa _ Y G.T.g hmg
  exact law_endG KX nl G.T.g G.T.b G.T.builtins G.T.nolimit hg hobj hints (Nat.le_trans hlen hn2) hr hF (hlaw ns hlen hbits)
end Iv
end
section
set_option Elab.async false
set_option linter.all false
set_option maxRecDepth 100000
set_option maxHeartbeats 4000000
/-! Iv.P1: how meanings are run by hand: what holds of every end. -/
namespace Iv
open PySem PySem.Spec PyProof.Rows L2
/-- it ends: Q holds of what it gives, E of what it raises -/
def Go {α : Type} (E : Exc → Sto → Prop) (m : M α) (st : Sto) (Q : α → Sto → Prop) : Prop := match m st with
  | .ok a st' => Q a st'
  | .exc x st' => E x st'
  | .bad => False
abbrev E0 : Exc → Sto → Prop := fun _ _ => False
abbrev Tot {α : Type} (m : M α) (st : Sto) (Q : α → Sto → Prop) : Prop := Go E0 m st Q
section
variable {α β : Type} {st : Sto} {ρ : Env} {E E' : Exc → Sto → Prop}
theorem Go.imp2 {m : M α} {Q Q' : α → Sto → Prop} (h : Go E m st Q) (i : ∀ a st', Q a st' → Q' a st') (j : ∀ x st', E x st' → E' x st') : Go E' m st Q' := by
  unfold Go at h ⊢
  cases e : m st with
  | ok a s => rw [e] at h; exact i a s h
  | exc x s => rw [e] at h; exact j x s h
  | bad => rw [e] at h; exact h
theorem Go.imp {m : M α} {Q Q' : α → Sto → Prop} (h : Go E m st Q) (i : ∀ a st', Q a st' → Q' a st') : Go E m st Q' := h.imp2 i fun _ _ z => z
theorem Go.of {m : M α} {Q : α → Sto → Prop} {a : α} {st' : Sto} (e : m st = .ok a st') (q : Q a st') : Go E m st Q := by unfold Go; rw [e]; exact q
theorem Go.ofX {m : M α} {Q : α → Sto → Prop} {x : Exc} {st' : Sto} (e : m st = .exc x st') (q : E x st') : Go E m st Q := by unfold Go; rw [e]; exact q
theorem Tot.ex {m : M α} {Q : α → Sto → Prop} (h : Tot m st Q) : ∃ a st', m st = .ok a st' ∧ Q a st' := by
  unfold Tot Go at h
  cases e : m st with
  | ok a s => rw [e] at h; exact ⟨a, s, rfl, h⟩
  | exc x s => rw [e] at h; exact h.elim
  | bad => rw [e] at h; exact h.elim
theorem t_ret {a : α} {Q : α → Sto → Prop} (h : Q a st) : Go E (ret a) st Q := h
theorem t_bnd {m : M α} {k : α → M β} {Q : β → Sto → Prop} (h : Go E m st fun a st' => Go E (k a) st' Q) : Go E (bnd m k) st Q := by
  unfold Go bnd at *
  cases e : m st with
  | ok a s => rw [e] at h; exact h
  | exc x s => rw [e] at h; exact h
  | bad => rw [e] at h; exact h
theorem t_bndS {m : M α} {k : α → SM} {Q : Fl × Env → Sto → Prop} (h : Go (fun x st' => Q (.ex x, ρ) st') m st fun a st' => Go E (k a) st' Q) : Go E (bndS ρ m k) st Q := by
  unfold Go bndS at *
  cases e : m st with
  | ok a s => rw [e] at h; exact h
  | exc x s => rw [e] at h; exact h
  | bad => rw [e] at h; exact h
theorem t_nox {m : M α} {Q : α → Sto → Prop} (h : Tot m st Q) : Go E (nox m) st Q := by
  obtain ⟨a, s, e, q⟩ := h.ex
  unfold Go nox
  rw [e]
  exact q
theorem t_ofO {o : Option α} {Q : α → Sto → Prop} (h : ∃ a, o = some a ∧ Q a st) : Go E (ofO o) st Q := by
  obtain ⟨a, rfl, q⟩ := h
  exact q
/-! ### expressions -/
variable {Q : R → Sto → Prop} {QB : Bool → Sto → Prop} {QL : List R → Sto → Prop} {f g : Env → M R} {gl : Env → M (List R)} {t u : Env → M Bool}
theorem t_eV {i : Nat} {r : R} (e : ρ[i]? = some (some r)) (h : Q r st) : Go E (eV i ρ) st Q := .of (by unfold eV; rw [e]; rfl) h
theorem t_eC {x : W} (h : Q (.w x) st) : Go E (eC x ρ) st Q := h
theorem t_e2 {o : Sto → R → R → Option R} (h : Go E (f ρ) st fun x st1 => Go E (g ρ) st1 fun y st2 => ∃ r, o st2 x y = some r ∧ Q r st2) : Go E (e2 o f g ρ) st Q :=
  t_bnd (h.imp fun x s1 h1 => t_bnd (h1.imp fun y s2 ⟨r, e, q⟩ => Go.of (by show ofO (o s2 x y) s2 = _; rw [e]; rfl) q))
theorem t_e1 {o : Sto → R → Option R} (h : Go E (f ρ) st fun x st1 => ∃ r, o st1 x = some r ∧ Q r st1) : Go E (e1 o f ρ) st Q :=
  t_bnd (h.imp fun x s1 ⟨r, e, q⟩ => Go.of (by show ofO (o s1 x) s1 = _; rw [e]; rfl) q)
theorem t_eA {o : Sto → List R → Option R} (h : Go E (gl ρ) st fun xs st1 => ∃ r, o st1 xs = some r ∧ Q r st1) : Go E (eA o gl ρ) st Q :=
  t_bnd (h.imp fun x s1 ⟨r, e, q⟩ => Go.of (by show ofO (o s1 x) s1 = _; rw [e]; rfl) q)
theorem t_nil (h : QL [] st) : Go E (aNil ρ) st QL := h
theorem t_cons (h : Go E (f ρ) st fun x st1 => Go E (gl ρ) st1 fun xs st2 => QL (x :: xs) st2) : Go E (aCons f gl ρ) st QL :=
  t_bnd (h.imp fun x s1 h1 => t_bnd (h1.imp fun xs s2 q => t_ret q))
theorem t_tup (h : Go E (gl ρ) st fun rs st1 => ∃ ws, mapO asW rs = some ws ∧ fits rs.length = true ∧ Q (.w (.tup ws)) st1) : Go E (eTup gl ρ) st Q :=
  t_bnd (h.imp fun rs s1 ⟨ws, e, hf, q⟩ => t_ofO ⟨_, by rw [if_pos hf, e]; rfl, q⟩)
theorem t_lst (h : Go E (gl ρ) st fun rs st1 => ∃ ws, mapO asW rs = some ws ∧ fits rs.length = true ∧ Q (.w (.lst ws)) st1) : Go E (eLst gl ρ) st Q :=
  t_bnd (h.imp fun rs s1 ⟨ws, e, hf, q⟩ => t_ofO ⟨_, by rw [if_pos hf, e]; rfl, q⟩)
theorem t_new {c : Cell} (h : Q (.loc st.length) (st ++ [c])) : Go E (newC c) st Q := h
theorem t_lstC (h : Go E (gl ρ) st fun rs st1 => ∃ ws, mapO asW rs = some ws ∧ fits rs.length = true ∧ Q (.loc st1.length) (st1 ++ [.lst ws])) : Go E (eLstC gl ρ) st Q :=
  t_bnd (h.imp fun rs s1 ⟨ws, e, hf, q⟩ => t_bnd (t_ofO ⟨ws, by rw [if_pos hf, e], t_new q⟩))
theorem t_tV (h : Go E (f ρ) st fun x st1 => ∃ b, asB x = some b ∧ QB b st1) : Go E (tV f ρ) st QB := t_bnd (h.imp fun x s1 ⟨b, e, q⟩ => t_ofO ⟨b, e, q⟩)
theorem t_not (h : Go E (t ρ) st fun b st1 => QB (!b) st1) : Go E (tNotM t ρ) st QB := t_bnd (h.imp fun b s1 q => t_ret q)
theorem t_and (h : Go E (t ρ) st fun b st1 => (b = true → Go E (u ρ) st1 QB) ∧ (b = false → QB false st1)) : Go E (tAndM t u ρ) st QB :=
  t_bnd (h.imp fun b s1 ⟨h1, h2⟩ => by
    cases b with
    | true => exact h1 rfl
    | false => exact t_ret (h2 rfl))
theorem t_or (h : Go E (t ρ) st fun b st1 => (b = true → QB true st1) ∧ (b = false → Go E (u ρ) st1 QB)) : Go E (tOrM t u ρ) st QB :=
  t_bnd (h.imp fun b s1 ⟨h1, h2⟩ => by
    cases b with
    | true => exact t_ret (h1 rfl)
    | false => exact h2 rfl)
theorem t_if (h : Go E (t ρ) st fun b st1 => (b = true → Go E (f ρ) st1 Q) ∧ (b = false → Go E (g ρ) st1 Q)) : Go E (eIf t f g ρ) st Q :=
  t_bnd (h.imp fun b s1 ⟨h1, h2⟩ => by
    cases b with
    | true => exact h1 rfl
    | false => exact h2 rfl)
theorem t_eand (h : Go E (f ρ) st fun x st1 => ∃ b, asB x = some b ∧ (b = true → Go E (g ρ) st1 Q) ∧ (b = false → Q (.w (.bl false)) st1)) : Go E (eAnd f g ρ) st Q :=
  t_bnd (h.imp fun x s1 ⟨b, e, h1, h2⟩ => t_bnd (t_ofO ⟨b, e, by
    cases b with
    | true => exact h1 rfl
    | false => exact t_ret (h2 rfl)⟩))
theorem t_eor (h : Go E (f ρ) st fun x st1 => ∃ b, asB x = some b ∧ (b = true → Q (.w (.bl true)) st1) ∧ (b = false → Go E (g ρ) st1 Q)) : Go E (eOr f g ρ) st Q :=
  t_bnd (h.imp fun x s1 ⟨b, e, h1, h2⟩ => t_bnd (t_ofO ⟨b, e, by
    cases b with
    | true => exact t_ret (h1 rfl)
    | false => exact h2 rfl⟩))
theorem t_enot (h : Go E (f ρ) st fun x st1 => ∃ b, asB x = some b ∧ Q (.w (.bl (!b))) st1) : Go E (eNot f ρ) st Q :=
  t_bnd (h.imp fun x s1 ⟨b, e, q⟩ => t_bnd (t_ofO ⟨b, e, t_ret q⟩))
theorem t_callP {n : Nat} {F : List R → M R} (h : Go E (gl ρ) st fun rs st1 => rs.length = n ∧ Go E (callP F rs) st1 Q) : Go E (eCallP n F gl ρ) st Q :=
  t_bnd (h.imp fun rs s1 ⟨e, h1⟩ => by rw [if_pos e]; exact h1)
theorem t_mk {n : Nat} {F : List R → M R} (h : Go E (gl ρ) st fun rs st1 => rs.length + 1 = n ∧ Go E (F rs) st1 Q) : Go E (eMk n F gl ρ) st Q :=
  t_bnd (h.imp fun rs s1 ⟨e, h1⟩ => by rw [if_pos e]; exact h1)
theorem t_eM {T : String} {m : Mt} (h : Go E (f ρ) st fun x st1 => tyC T st1 x = true ∧ Go E (gl ρ) st1 fun xs st2 => ∃ r st3, m st2 x xs = some (r, st3) ∧ Q r st3) : Go E (eM T m f gl ρ) st Q := by
  refine t_bnd (h.imp fun x s1 ⟨ht, h1⟩ => ?_)
  have z : Go E (bnd (gl ρ) fun xs => app m x xs) s1 Q := t_bnd (h1.imp fun xs s2 ⟨r, s3, e, q⟩ => Go.of (by unfold app; rw [e]) q)
  unfold Go at z ⊢
  simp only [ht, if_true]
  exact z
/-! ### statements -/
variable {QS : Fl × Env → Sto → Prop} {a b : Env → SM}
theorem t_seq (h : Go E (a ρ) st fun p st1 => match p.1 with | .nx => Go E (b p.2) st1 QS | _ => QS p st1) : Go E (sSeq a b ρ) st QS :=
  t_bnd (h.imp fun p s1 h1 => by
    obtain ⟨fl, ρ'⟩ := p
    cases fl with
    | nx => exact h1
    | rt r => exact t_ret h1
    | bk => exact t_ret h1
    | ct => exact t_ret h1
    | ex x => exact t_ret h1)
theorem t_sset {i : Nat} (h : Go (fun x st' => QS (.ex x, ρ) st') (f ρ) st fun r st1 => QS (.nx, ρ.set i (some r)) st1) : Go E (sSet i f ρ) st QS := t_bndS (h.imp fun r s1 q => t_ret q)
theorem t_sret (h : Go (fun x st' => QS (.ex x, ρ) st') (f ρ) st fun r st1 => QS (.rt r, ρ) st1) : Go E (sRet f ρ) st QS := t_bndS (h.imp fun r s1 q => t_ret q)
theorem t_sexpr (h : Go (fun x st' => QS (.ex x, ρ) st') (f ρ) st fun _ st1 => QS (.nx, ρ) st1) : Go E (sExpr f ρ) st QS := t_bndS (h.imp fun r s1 q => t_ret q)
theorem t_snil (h : QS (.nx, ρ) st) : Go E (sNil ρ) st QS := t_ret h
theorem t_sif (h : Go (fun x st' => QS (.ex x, ρ) st') (t ρ) st fun c st1 => (c = true → Go E (a ρ) st1 QS) ∧ (c = false → Go E (b ρ) st1 QS)) : Go E (sIf t a b ρ) st QS :=
  t_bndS (h.imp fun c s1 ⟨h1, h2⟩ => by
    cases c with
    | true => exact h1 rfl
    | false => exact h2 rfl)
theorem t_asg {G : R → Env → M Env} (h : Go (fun x st' => QS (.ex x, ρ) st') (f ρ) st fun r st1 => Tot (G r ρ) st1 fun ρ' st2 => QS (.nx, ρ') st2) : Go E (sAsg f G ρ) st QS :=
  t_bndS (h.imp fun r s1 h1 => t_bnd (t_nox (h1.imp fun ρ' s2 q => t_ret q)))
theorem t_msub {r : R} {QE : Env → Sto → Prop} (h : Go E (f ρ) st fun o st1 => Go E (g ρ) st1 fun i st2 => ∃ st3, setR st2 o i r = some st3 ∧ QE ρ st3) : Go E (mSub f g r ρ) st QE :=
  t_bnd (h.imp fun o s1 h1 => t_bnd (h1.imp fun i s2 ⟨s3, e, q⟩ => Go.of (by simp only [e]) q))
theorem t_par {i j : Nat} (h : Go (fun x st' => QS (.ex x, ρ) st') (gl ρ) st fun rs st1 => ∃ x y, rs = [x, y] ∧ QS (.nx, (ρ.set i (some x)).set j (some y)) st1) : Go E (sPar i j gl ρ) st QS :=
  t_bndS (h.imp fun rs s1 ⟨x, y, e, q⟩ => by subst e; exact t_ret q)
theorem t_par3 {i j l : Nat} (h : Go (fun x st' => QS (.ex x, ρ) st') (gl ρ) st fun rs st1 => ∃ x y z, rs = [x, y, z] ∧ QS (.nx, ((ρ.set i (some x)).set j (some y)).set l (some z)) st1) : Go E (sPar3 i j l gl ρ) st QS :=
  t_bndS (h.imp fun rs s1 ⟨x, y, z, e, q⟩ => by subst e; exact t_ret q)
theorem t_unp {G : R → Env → Option Env} (h : Go (fun x st' => QS (.ex x, ρ) st') (f ρ) st fun r st1 => ∃ ρ', G r ρ = some ρ' ∧ QS (.nx, ρ') st1) : Go E (sUnp f G ρ) st QS :=
  t_bndS (h.imp fun r s1 ⟨ρ', e, q⟩ => t_bnd (t_ofO ⟨ρ', e, t_ret q⟩))
/-! ### loops over a list that stands still -/
theorem t_for {nxt : Nat → Sto → Option (Option W)} {body : W → Env → SM} (L : List W) (I : Nat → Env → Sto → Prop) (hn : ∀ i ρ st, I i ρ st → nxt i st = some L[i]?)
    (step : ∀ i x ρ st, L[i]? = some x → I i ρ st → Go E (body x ρ) st fun p st' => match p.1 with | .nx => I (i + 1) p.2 st' | .ct => I (i + 1) p.2 st' | .bk => QS (.nx, p.2) st' | _ => QS p st')
    (done : ∀ ρ st, I L.length ρ st → QS (.nx, ρ) st) : ∀ (k i : Nat) (ρ : Env) (st : Sto), i + k = L.length → I i ρ st → Go E (forN nxt body k i ρ) st QS
  | 0, i, ρ, st, e, h => by
    have e' : i = L.length := by omega
    subst e'
    refine .of (a := (.nx, ρ)) (st' := st) ?_ (done ρ st h)
    unfold forN
    rw [hn _ _ _ h, List.getElem?_eq_none (Nat.le_refl _)]
  | k + 1, i, ρ, st, e, h => by
    have hl : i < L.length := by omega
    have ex : L[i]? = some L[i] := List.getElem?_eq_getElem hl
    have z := step i L[i] ρ st ex h
    unfold Go at z ⊢
    rw [forN]
    simp only [hn _ _ _ h, ex]
    cases e1 : body L[i] ρ st with
    | bad => rw [e1] at z; exact z
    | exc x st' => rw [e1] at z; exact z
    | ok p st' =>
      rw [e1] at z
      obtain ⟨fl, ρ'⟩ := p
      cases fl with
      | nx => exact t_for L I hn step done k (i + 1) ρ' st' (by omega) z
      | ct => exact t_for L I hn step done k (i + 1) ρ' st' (by omega) z
      | bk => exact z
      | rt r => exact z
      | ex x => exact z
/-- an iterator over L, whatever the store is -/
def Over (it : Iter) (L : List W) : Prop := it.len = L.length ∧ ∀ i st, it.nxt i st = some L[i]?
theorem t_sfor {fi : Env → M Iter} {G : R → Env → Option Env} {body : Env → SM} (h : Go (fun x st' => QS (.ex x, ρ) st') (fi ρ) st fun it st1 => ∃ L, Over it L ∧ ∃ I : Nat → Env → Sto → Prop, I 0 ρ st1 ∧
      (∀ i x ρ st, L[i]? = some x → I i ρ st → ∃ ρ', G (.w x) ρ = some ρ' ∧ Go E (body ρ') st fun p st' => match p.1 with | .nx => I (i + 1) p.2 st' | .ct => I (i + 1) p.2 st' | .bk => QS (.nx, p.2) st' | _ => QS p st') ∧
      (∀ ρ st, I L.length ρ st → QS (.nx, ρ) st)) : Go E (sFor fi G body ρ) st QS :=
  t_bndS (h.imp fun it s1 ⟨L, ov, I, h0, hs, hd⟩ => by
    rw [ov.1]
    exact t_for L I (fun i _ st _ => ov.2 i st) (fun i x ρ st e hi => by
      obtain ⟨ρ', eg, ht⟩ := hs i x ρ st e hi
      unfold forB
      rw [eg]
      exact ht) hd L.length 0 ρ s1 (by simp) h0)
theorem over_tup (xs : List W) : Over ⟨fun i _ => some xs[i]?, xs.length⟩ xs := ⟨rfl, fun _ _ => rfl⟩
section
variable {QI : Iter → Sto → Prop} {xs : List W}
theorem t_itA_tup (h : Go E (f ρ) st fun r st1 => r = .w (.tup xs) ∧ ∀ it, Over it xs → QI it st1) : Go E (itA f ρ) st QI :=
  t_bnd (h.imp fun r s1 ⟨e, q⟩ => by subst e; exact q _ (over_tup xs))
theorem t_itA_lst (h : Go E (f ρ) st fun r st1 => r = .w (.lst xs) ∧ ∀ it, Over it xs → QI it st1) : Go E (itA f ρ) st QI :=
  t_bnd (h.imp fun r s1 ⟨e, q⟩ => by subst e; exact q _ (over_tup xs))
theorem t_itA_dic {kvs : List (W × W)} (h : Go E (f ρ) st fun r st1 => r = .w (.dic false kvs) ∧ ∀ it, Over it (kvs.map (·.1)) → QI it st1) : Go E (itA f ρ) st QI :=
  t_bnd (h.imp fun r s1 ⟨e, q⟩ => by subst e; exact q _ ⟨by simp, fun i _ => by simp⟩)
theorem t_itE (h : Go E (f ρ) st fun r st1 => (r = .w (.tup xs) ∨ r = .w (.lst xs)) ∧ ∀ it, Over it (xs.mapIdx fun i x => pairW (.int (i : Nat)) x) → QI it st1) : Go E (itE f ρ) st QI :=
  t_bnd (h.imp fun r s1 ⟨e, q⟩ => by
    rcases e with e | e
    · subst e; exact q _ ⟨by simp, fun i _ => by simp⟩
    · subst e; exact q _ ⟨by simp, fun i _ => by simp [listOf]⟩)
theorem t_itR {n : Nat} (hn : n ≤ 1000000) (h : Go E (f ρ) st fun r st1 => r = .w (.int n) ∧ ∀ it, Over it ((List.range n).map fun i => .int (i : Nat)) → QI it st1) : Go E (itR f ρ) st QI :=
  t_bnd (h.imp fun r s1 ⟨e, q⟩ => by
    subst e
    have hc : (fits (n : Int).toNat && decide (-1000000 ≤ (n : Int))) = true := by unfold fits; simp; omega
    simp only [hc, if_true]
    refine q _ ⟨by simp, fun i _ => ?_⟩
    by_cases hi : i < n
    · simp [hi]
    · simp [hi])
end
/-! ### list comprehensions -/
theorem t_lc {nxt : Nat → Sto → Option (Option W)} {step : W → M (Option W)} {QW : List W → Sto → Prop} (L : List W) (I : Nat → List W → Sto → Prop) (hn : ∀ i acc st, I i acc st → nxt i st = some L[i]?) (hf : L.length ≤ 1000000) (hi : ∀ i acc st, I i acc st → acc.length ≤ i)
    (hs : ∀ i x acc st, L[i]? = some x → I i acc st → Tot (step x) st fun o st' => match o with | none => I (i + 1) acc st' | some y => I (i + 1) (acc ++ [y]) st')
    (done : ∀ acc st, I L.length acc st → QW acc st) : ∀ (k i : Nat) (acc : List W) (st : Sto), i + k = L.length → I i acc st → Go E (lcN nxt step k i acc) st QW
  | 0, i, acc, st, e, h => by
    have e' : i = L.length := by omega
    subst e'
    refine .of (a := acc) (st' := st) ?_ (done acc st h)
    unfold lcN
    rw [hn _ _ _ h, List.getElem?_eq_none (Nat.le_refl _)]
  | k + 1, i, acc, st, e, h => by
    have hl : i < L.length := by omega
    have ex : L[i]? = some L[i] := List.getElem?_eq_getElem hl
    obtain ⟨o, st', e1, q⟩ := (hs i L[i] acc st ex h).ex
    unfold Go
    rw [lcN]
    simp only [hn _ _ _ h, ex, e1]
    cases o with
    | none => exact t_lc L I hn hf hi hs done k (i + 1) acc st' (by omega) q
    | some y =>
      have hfit : fits (acc.length + 1) = true := by
        have := hi _ _ _ h
        unfold fits
        simp
        omega
      simp only [hfit, if_true]
      exact t_lc L I hn hf hi hs done k (i + 1) (acc ++ [y]) st' (by omega) q
theorem t_lcRun {own : List Nat} {fi : Env → M Iter} {G : R → Env → Option Env} {el : Env → M R} {QW : List W → Sto → Prop} (h : Go E (fi ρ) st fun it st1 => ∃ L, Over it L ∧ L.length ≤ 1000000 ∧ ∃ I : Nat → List W → Sto → Prop, I 0 [] st1 ∧ (∀ i acc st, I i acc st → acc.length ≤ i) ∧
      (∀ i x acc st, L[i]? = some x → I i acc st → ∃ ρ', G (.w x) (wipeR ρ own) = some ρ' ∧ Tot (t ρ') st fun c st1 => (c = true → Tot (el ρ') st1 fun r st2 => ∃ y, r = .w y ∧ I (i + 1) (acc ++ [y]) st2) ∧ (c = false → I (i + 1) acc st1)) ∧
      (∀ acc st, I L.length acc st → QW acc st)) : Go E (lcRun own fi G t el ρ) st QW :=
  t_bnd (h.imp fun it s1 ⟨L, ov, hf, I, h0, hi, hs, hd⟩ => by
    rw [ov.1]
    refine t_lc L I (fun i _ st _ => ov.2 i st) hf hi (fun i x acc st e hI => ?_) hd L.length 0 [] s1 (by simp) h0
    obtain ⟨ρ', eg, ht⟩ := hs i x acc st e hI
    unfold lcStep
    rw [eg]
    refine t_bnd (t_nox (ht.imp fun c s2 ⟨h1, h2⟩ => ?_))
    cases c with
    | true =>
      refine t_bnd (t_nox ((h1 rfl).imp fun r s3 ⟨y, er, q⟩ => ?_))
      subst er
      exact t_ofO ⟨some y, rfl, q⟩
    | false => exact t_ret (h2 rfl))
/-- a comprehension whose parts change nothing -/
theorem t_lcPure {own : List Nat} {fi : Env → M Iter} {G : R → Env → Option Env} {el : Env → M R} {QW : List W → Sto → Prop} (h : Go E (fi ρ) st fun it st1 => ∃ L, Over it L ∧ L.length ≤ 1000000 ∧ ∃ F : W → Option W,
      (∀ x ∈ L, ∃ ρ', G (.w x) (wipeR ρ own) = some ρ' ∧ Tot (t ρ') st1 fun c st2 => (c = true → Tot (el ρ') st2 fun r st3 => st3 = st1 ∧ ∃ y, r = .w y ∧ F x = some y) ∧ (c = false → st2 = st1 ∧ F x = none)) ∧ QW (L.filterMap F) st1) : Go E (lcRun own fi G t el ρ) st QW :=
  t_lcRun (h.imp fun it s1 ⟨L, ov, hf, F, hs, q⟩ => ⟨L, ov, hf, fun i acc st => i ≤ L.length ∧ st = s1 ∧ acc = (L.take i).filterMap F, ⟨Nat.zero_le _, rfl, rfl⟩, fun i acc st ⟨a, _, b⟩ => by
      rw [b]
      exact Nat.le_trans (List.length_filterMap_le _ _) (by rw [List.length_take]; omega), fun i x acc st e ⟨h1, h2, h3⟩ => by
      subst h2 h3
      have hlt := (List.getElem?_eq_some_iff.mp e).1
      obtain ⟨ρ', eg, ht⟩ := hs x (List.mem_of_getElem? e)
      have tk : L.take (i + 1) = L.take i ++ [x] := by rw [List.take_succ, e]; rfl
      refine ⟨ρ', eg, ht.imp fun c s2 ⟨a, b⟩ => ⟨fun hc => (a hc).imp fun r s3 ⟨e3, y, er, ey⟩ => ⟨y, er, by omega, e3, by rw [tk, List.filterMap_append]; simp [ey]⟩, fun hc => ⟨by omega, (b hc).1, by rw [tk, List.filterMap_append]; simp [(b hc).2]⟩⟩⟩, fun acc st ⟨_, h2, h3⟩ => by
      subst h2 h3
      rw [List.take_length]
      exact q⟩)
theorem t_eLc {own : List Nat} {fi : Env → M Iter} {G : R → Env → Option Env} {el : Env → M R} (h : Go E (lcRun own fi G t el ρ) st fun ys st1 => Q (.w (.lst ys)) st1) : Go E (eLc own fi G t el ρ) st Q := t_bnd (h.imp fun ys s1 q => t_ret q)
theorem t_eLcC {own : List Nat} {fi : Env → M Iter} {G : R → Env → Option Env} {el : Env → M R} (h : Go E (lcRun own fi G t el ρ) st fun ys st1 => Q (.loc st1.length) (st1 ++ [.lst ys])) : Go E (eLcC own fi G t el ρ) st Q := t_bnd (h.imp fun ys s1 q => t_new q)
theorem t_yes {QB : Bool → Sto → Prop} (h : QB true st) : Go E (tYes ρ) st QB := t_ret h
/-! ### dict comprehensions whose parts change nothing -/
theorem t_dc {nxt : Nat → Sto → Option (Option W)} {step : W → M (Option (W × W))} {QW : List (W × W) → Sto → Prop} (L : List W) (s0 : Sto) (F : W → Option (W × W)) (hn : ∀ i, nxt i s0 = some L[i]?) (hf : L.length ≤ 1000000)
    (hs : ∀ x ∈ L, step x s0 = .ok (F x) s0) : ∀ (k i : Nat) (acc : List (W × W)), i + k = L.length → acc.length ≤ i → QW (((L.drop i).filterMap F).foldl (fun a p => putD a p.1 p.2) acc) s0 → Go E (dcN nxt step k i acc) s0 QW
  | 0, i, acc, e, hl, q => by
    have e' : i = L.length := by omega
    subst e'
    rw [List.drop_length] at q
    refine .of (a := acc) (st' := s0) ?_ q
    unfold dcN
    rw [hn, List.getElem?_eq_none (Nat.le_refl _)]
  | k + 1, i, acc, e, hl, q => by
    have hlt : i < L.length := by omega
    have ex : L[i]? = some L[i] := List.getElem?_eq_getElem hlt
    have e1 := hs L[i] (List.getElem_mem hlt)
    have dr : L.drop i = L[i] :: L.drop (i + 1) := List.drop_eq_getElem_cons hlt
    rw [dr, List.filterMap_cons] at q
    unfold Go
    rw [dcN]
    simp only [hn, ex, e1]
    cases o : F L[i] with
    | none => rw [o] at q; exact t_dc L s0 F hn hf hs k (i + 1) acc (by omega) (by omega) q
    | some y =>
      have hfit : fits (acc.length + 1) = true := by
        unfold fits
        simp
        omega
      rw [o] at q
      simp only [hfit, if_true]
      refine t_dc L s0 F hn hf hs k (i + 1) (putD acc y.1 y.2) (by omega) ?_ q
      unfold putD
      split
      · rw [List.length_map]; omega
      · rw [List.length_append]; simp; omega
theorem t_eDc {own : List Nat} {fi : Env → M Iter} {G : R → Env → Option Env} {ek ev : Env → M R} (h : Go E (fi ρ) st fun it st1 => ∃ L, Over it L ∧ L.length ≤ 1000000 ∧ ∃ F : W → Option (W × W),
      (∀ x ∈ L, ∃ ρ', G (.w x) (wipeR ρ own) = some ρ' ∧ Tot (t ρ') st1 fun c st2 => (c = true → Tot (ek ρ') st2 fun r st3 => Tot (ev ρ') st3 fun r' st4 => st4 = st1 ∧ ∃ k v, r = .w k ∧ r' = .w v ∧ flatK k = true ∧ F x = some (k, v)) ∧ (c = false → st2 = st1 ∧ F x = none)) ∧
      Q (.loc st1.length) (st1 ++ [.dic false ((L.filterMap F).foldl (fun a p => putD a p.1 p.2) [])])) : Go E (eDc own fi G t ek ev ρ) st Q :=
  t_bnd (t_bnd (h.imp fun it s1 ⟨L, ov, hf, F, hs, q⟩ => by
    rw [ov.1]
    refine t_dc (E := E) L s1 F (fun i => ov.2 i s1) hf (fun x hx => ?_) L.length 0 [] (by simp) (by simp) ?_
    · obtain ⟨ρ', eg, ht⟩ := hs x hx
      obtain ⟨c, s2, e2, h1, h2⟩ := ht.ex
      unfold dcStep
      rw [eg]
      simp only [bnd, nox, e2]
      cases c with
      | false =>
        obtain ⟨e3, e4⟩ := h2 rfl
        rw [e4, e3]; rfl
      | true =>
        obtain ⟨r, s3, e3, h3⟩ := (h1 rfl).ex
        obtain ⟨r', s4, e4, e5, k, v, er, er', hk, eF⟩ := h3.ex
        subst er er' e5
        show bnd (nox (ek ρ')) (fun r => bnd (nox (ev ρ')) fun r' => ofO (keyVal r r')) s2 = _
        simp only [bnd, nox, e3, e4, keyVal, hk, eF]
        rfl
    · rw [List.drop_zero]
      exact t_new q))
end
section
variable {E : Exc → Sto → Prop}
/-- a def's run -/
theorem t_runB {n : Nat} {g : Env → SM} {rs : List R} {st : Sto} {Q : R → Sto → Prop} (h : Tot (g (rs.map some ++ List.replicate (n - rs.length) none)) st fun p st' => match p.1 with | .rt r => Q r st' | .nx => Q (.w .non) st' | .ex x => E x st' | _ => False) : Go E (runB n g rs) st Q := by
  obtain ⟨⟨fl, ρ⟩, st', e, q⟩ := h.ex
  unfold Go runB
  rw [e]
  cases fl with
  | rt r => exact q
  | nx => exact q
  | bk => exact q.elim
  | ct => exact q.elim
  | ex x => exact q
/-- a call with a store of its own -/
theorem callP_ok {F : List R → M R} {rs : List R} {xs ys : List W} {rest more : Sto} {r : R} {x : W} (hp : rs.all pureR = true) (h : F rs [.lst xs] = .ok r (.lst ys :: more)) (hf : frzR (.lst ys :: more) 6 r = some x) : callP F rs (.lst xs :: rest) = .ok (.w x) (.lst ys :: rest) := by
  unfold callP
  simp only [hp, if_true, h]
  cases r with
  | w y => simp only [hf]
  | loc n =>
    cases n with
    | zero => cases hf
    | succ n => simp only [hf]
theorem t_call {F : List R → M R} {rs : List R} {xs : List W} {rest : Sto} {Q : R → Sto → Prop} (hp : rs.all pureR = true) (h : Go (fun x st' => ∃ ys more, st' = .lst ys :: more ∧ E x (.lst ys :: rest)) (F rs) [.lst xs] fun r st' => ∃ ys more x, st' = .lst ys :: more ∧ frzR st' 6 r = some x ∧ Q (.w x) (.lst ys :: rest)) : Go E (callP F rs) (.lst xs :: rest) Q := by
  unfold Go at h
  cases e : F rs [.lst xs] with
  | bad => rw [e] at h; exact h.elim
  | exc x st' =>
    rw [e] at h
    obtain ⟨ys, more, rfl, q⟩ := h
    refine .ofX (x := x) (st' := .lst ys :: rest) ?_ q
    unfold callP
    simp only [hp, if_true, e]
  | ok r st' =>
    rw [e] at h
    obtain ⟨ys, more, x, rfl, hf, q⟩ := h
    exact .of (callP_ok hp e hf) q
end
/-! ### further parts -/
section
variable {α β : Type} {st : Sto} {ρ : Env} {E : Exc → Sto → Prop} {Q : R → Sto → Prop} {QS : Fl × Env → Sto → Prop} {f g k : Env → M R} {gl : Env → M (List R)}
theorem br_t {c : Bool} {A B : Prop} (h : c = true) (a : A) : (c = true → A) ∧ (c = false → B) := ⟨fun _ => a, fun h' => by rw [h] at h'; cases h'⟩
theorem br_f {c : Bool} {A B : Prop} (h : c = false) (b : B) : (c = true → A) ∧ (c = false → B) := ⟨fun h' => (by rw [h] at h'; cases h'), fun _ => b⟩
theorem t_chain {o o' : Sto → R → R → Option R} (h : Go E (f ρ) st fun x st1 => Go E (g ρ) st1 fun y st2 => ∃ c, (o st2 x y).bind asB = some c ∧ (c = true → Go E (k ρ) st2 fun z st3 => ∃ r, o' st3 y z = some r ∧ Q r st3) ∧ (c = false → Q (.w (.bl false)) st2)) : Go E (eChain o o' f g k ρ) st Q :=
  t_bnd (h.imp fun x s1 h1 => t_bnd (h1.imp fun y s2 ⟨c, e, h2, h3⟩ => by
    have z : Go E (bnd (ofO ((o s2 x y).bind asB)) fun k' => if k' then bnd (k ρ) fun z st => ofO (o' st y z) st else ret (.w (.bl false))) s2 Q := t_bnd (t_ofO ⟨c, e, by
      cases c with
      | true => exact t_bnd ((h2 rfl).imp fun z s3 ⟨r, er, q⟩ => Go.of (by show ofO (o' s3 y z) s3 = _; rw [er]; rfl) q)
      | false => exact h3 rfl⟩)
    exact z))
theorem t_ono {QO : Option Int → Sto → Prop} (h : QO none st) : Go E (oNo ρ) st QO := h
theorem t_osome {QO : Option Int → Sto → Prop} (h : Go E (f ρ) st fun r st1 => ∃ i, r = .w (.int i) ∧ QO (some i) st1) : Go E (oSome f ρ) st QO := t_bnd (h.imp fun r s1 ⟨i, e, q⟩ => by subst e; exact q)
theorem t_sl {lo hi : Env → M (Option Int)} (h : Go E (f ρ) st fun x st1 => Go E (lo ρ) st1 fun l st2 => Go E (hi ρ) st2 fun u st3 => ∃ r, slR st3 x l u = some r ∧ Q r st3) : Go E (eSl f lo hi ρ) st Q :=
  t_bnd (h.imp fun x s1 h1 => t_bnd (h1.imp fun l s2 h2 => t_bnd (h2.imp fun u s3 ⟨r, e, q⟩ => Go.of (by show ofO (slR s3 x l u) s3 = _; rw [e]; rfl) q)))
theorem t_rcd {ks : List Str} (h : Go E (gl ρ) st fun rs st1 => Q (.loc st1.length) (st1 ++ [.rcd (ks.zip rs)])) : Go E (eRcd ks gl ρ) st Q := t_bnd (h.imp fun rs s1 q => t_new q)
theorem t_dicC (h : Q (.loc st.length) (st ++ [.dic false []])) : Go E (eDicC ρ) st Q := h
theorem t_fld {cn nm : Str} (h : Go (fun x st' => QS (.ex x, ρ) st') (g ρ) st fun v st1 => Go (fun x st' => QS (.ex x, ρ) st') (f ρ) st1 fun o st2 => ∃ st3, fputR cn nm st2 o v = some st3 ∧ QS (.nx, ρ) st3) : Go E (sFld cn nm f g ρ) st QS :=
  t_bndS (h.imp fun v s1 h1 => t_bndS (h1.imp fun o s2 ⟨s3, e, q⟩ => Go.of (by simp only [e]) q))
theorem t_mtp {n : Nat} {G : List W → Env → M Env} {r : R} {QE : Env → Sto → Prop} (h : ∃ xs, r = .w (.tup xs) ∧ xs.length = n ∧ Go E (G xs ρ) st QE) : Go E (mTp n G r ρ) st QE := by
  obtain ⟨xs, rfl, hl, h⟩ := h
  show Go E (if xs.length = n then G xs ρ else fail) st QE
  rw [if_pos hl]
  exact h
theorem t_mscons {G : R → Env → M Env} {H : List W → Env → M Env} {x : W} {xs : List W} {QE : Env → Sto → Prop} (h : Go E (G (.w x) ρ) st fun ρ' st1 => Go E (H xs ρ') st1 QE) : Go E (msCons G H (x :: xs) ρ) st QE := t_bnd h
theorem t_msnil {QE : Env → Sto → Prop} (h : QE ρ st) : Go E (msNil [] ρ) st QE := h
theorem t_raise {cn : Str} {fl : List Str} (h : Go (fun x st' => QS (.ex x, ρ) st') (gl ρ) st fun rs st1 => ∃ ws, rs.length = fl.length ∧ mapO asW rs = some ws ∧ QS (.ex ⟨cn, fl.zip ws⟩, ρ) st1) : Go E (sRaise cn fl gl ρ) st QS :=
  t_bndS (h.imp fun rs s1 ⟨ws, hl, e, q⟩ => by
    show Go E (if rs.length = fl.length then (match mapO asW rs with | some ws => ret (.ex ⟨cn, fl.zip ws⟩, ρ) | none => fail) else fail) s1 QS
    rw [if_pos hl, e]
    exact q)
theorem t_prop {cn : Str} {F : List R → M R} (h : Go E (f ρ) st fun o st1 => isIns cn "" st1 o = true ∧ Tot (callP F [o]) st1 Q) : Go E (eProp cn 1 F f ρ) st Q :=
  t_bnd (h.imp fun o s1 ⟨hi, h1⟩ => by
    have z := t_nox (E := E) h1
    unfold Go at z ⊢
    simp only [hi, if_true]
    exact z)
theorem t_methP {cn m : Str} {n : Nat} {F : List R → M R} (h : Go E (f ρ) st fun o st1 => isIns cn m st1 o = true ∧ Go E (gl ρ) st1 fun rs st2 => (o :: rs).length = n ∧ Go E (callP F (o :: rs)) st2 Q) : Go E (eMethP cn m n F f gl ρ) st Q :=
  t_bnd (h.imp fun o s1 ⟨hi, h1⟩ => by
    have z : Go E (bnd (gl ρ) fun rs => if (o :: rs).length = n then callP F (o :: rs) else fail) s1 Q := t_bnd (h1.imp fun rs s2 ⟨e, h2⟩ => by rw [if_pos e]; exact h2)
    unfold Go at z ⊢
    simp only [hi, if_true]
    exact z)
theorem t_lenO {cn : Str} {F : List R → M R} (h : Go E (f ρ) st fun o st1 => isIns cn "" st1 o = true ∧ Tot (F [o]) st1 fun r st2 => ∃ n : Nat, r = .w (.int n) ∧ n ≤ 1000000 ∧ Q (.w (.int n)) st2) : Go E (eLenO cn F f ρ) st Q :=
  t_bnd (h.imp fun o s1 ⟨hi, h1⟩ => by
    obtain ⟨r, s2, e, n, er, hn, q⟩ := h1.ex
    subst er
    unfold Go
    have hc : (decide ((0 : Int) ≤ (n : Nat)) && decide (((n : Nat) : Int) < 9223372036854775808)) = true := by simp; omega
    simp only [hi, if_true, bnd, nox, e, hc]
    exact q)
/-- C(..) by value -/
theorem t_mkP {cn : Str} {F : List R → M R} {rs : List R} {xs : List W} {rest : Sto} (hp : rs.all pureR = true) (h : Go (fun x st' => ∃ ys more, st' = .lst ys :: more ∧ E x (.lst ys :: rest)) (F (.loc 1 :: rs)) [.lst xs, .ins cn []] fun r st' => r = .w .non ∧ ∃ ys more x, st' = .lst ys :: more ∧ frzR st' 6 (.loc 1) = some x ∧ Q (.w x) (.lst ys :: rest)) : Go E (mkP cn F rs) (.lst xs :: rest) Q := by
  refine t_call hp ?_
  unfold Go at h
  have un : mkC cn F rs [.lst xs] = match F (.loc 1 :: rs) [.lst xs, .ins cn []] with
    | .ok (.w .non) st' => .ok (.loc 1) st'
    | .ok _ _ => .bad
    | .exc x st' => .exc x st'
    | .bad => .bad := rfl
  unfold Go
  rw [un]
  cases e : F (.loc 1 :: rs) [.lst xs, .ins cn []] with
  | bad => rw [e] at h; exact h.elim
  | exc x st' => rw [e] at h; exact h
  | ok r st' =>
    rw [e] at h
    obtain ⟨rfl, q⟩ := h
    exact q
end
end Iv
end
section
set_option Elab.async false
set_option linter.all false
set_option maxRecDepth 100000
set_option maxHeartbeats 4000000
namespace Iv.T
open PySem PySem.Spec PyProof.Rows L2
def top (i : Nat) : Stmt := PySem.Challenge.pw_invitedin_k10_mends_made.main.body.getD i (.Pass ⟨0, 0, 0, 0⟩)
def mem (c : Stmt) (i : Nat) : Stmt := match c with
  | .ClassDef _ _ _ b _ _ _ _ _ _ _ => b.getD i (.Pass ⟨0, 0, 0, 0⟩)
  | _ => .Pass ⟨0, 0, 0, 0⟩
/-! ### what the top leaves -/
structure Fs (K : PySem.W.Frag) (mg : Str → Option Value) : Prop where
  c_Book : Cls K (He.ga K "Book")
  f_all : mg "all" = none
  f_bool : mg "bool" = none
  f_dict : mg "dict" = none
  f_enumerate : mg "enumerate" = none
  f_int : mg "int" = none
  f_isinstance : mg "isinstance" = none
  f_len : mg "len" = none
  f_list : mg "list" = none
  f_range : mg "range" = none
  f_repr : mg "repr" = none
  f_sorted : mg "sorted" = none
  f_str : mg "str" = none
  f_tuple : mg "tuple" = none
  f_zip : mg "zip" = none
  g_ANSWERS : mg "ANSWERS" = some (.ref (He.ga K "ANSWERS"))
  g_Book : mg "Book" = some (.ref (He.ga K "Book"))
  g_CLOSES : mg "CLOSES" = some (.ref (He.ga K "CLOSES"))
  g_InvalidBook : mg "InvalidBook" = some (.ref (He.ga K "InvalidBook"))
  g_InvalidGrants : mg "InvalidGrants" = some (.ref (He.ga K "InvalidGrants"))
  g_InvalidRoles : mg "InvalidRoles" = some (.ref (He.ga K "InvalidRoles"))
  g_InvalidRule : mg "InvalidRule" = some (.ref (He.ga K "InvalidRule"))
  g_InviteError : mg "InviteError" = some (.ref (He.ga K "InviteError"))
  g_JOINS : mg "JOINS" = some (.ref (He.ga K "JOINS"))
  g_LETTERS : ∃ t, mg "LETTERS" = some (.str "abcdefghijklmnopqrstuvwxyz" t)
  g_MOST_DAYS : ∃ t, mg "MOST_DAYS" = some (.int 2 t)
  g_MOST_KINDS : ∃ t, mg "MOST_KINDS" = some (.int 3 t)
  g_MOST_ROLES : ∃ t, mg "MOST_ROLES" = some (.int 4 t)
  g_MOST_RULES : ∃ t, mg "MOST_RULES" = some (.int 6 t)
  g_MOST_USES : ∃ t, mg "MOST_USES" = some (.int 2 t)
  g_UnknownMend : mg "UnknownMend" = some (.ref (He.ga K "UnknownMend"))
  g_WORDS : mg "WORDS" = some (.ref (He.ga K "WORDS"))
  g__law_all_mends : mg "_law_all_mends" = some (.ref (He.ga K "_law_all_mends"))
  g__law_book : mg "_law_book" = some (.ref (He.ga K "_law_book"))
  g__law_drawn : mg "_law_drawn" = some (.ref (He.ga K "_law_drawn"))
  g__law_due : mg "_law_due" = some (.ref (He.ga K "_law_due"))
  g__law_kind : mg "_law_kind" = some (.ref (He.ga K "_law_kind"))
  g__law_rule : mg "_law_rule" = some (.ref (He.ga K "_law_rule"))
  g__law_taken : mg "_law_taken" = some (.ref (He.ga K "_law_taken"))
  g__law_told : mg "_law_told" = some (.ref (He.ga K "_law_told"))
  g_are_kinds : mg "are_kinds" = some (.ref (He.ga K "are_kinds"))
  g_are_roles : mg "are_roles" = some (.ref (He.ga K "are_roles"))
  g_check_grants : mg "check_grants" = some (.ref (He.ga K "check_grants"))
  g_check_rules : mg "check_rules" = some (.ref (He.ga K "check_rules"))
  g_is_integer : mg "is_integer" = some (.ref (He.ga K "is_integer"))
  g_is_kind : mg "is_kind" = some (.ref (He.ga K "is_kind"))
  g_is_mend : mg "is_mend" = some (.ref (He.ga K "is_mend"))
  g_is_name : mg "is_name" = some (.ref (He.ga K "is_name"))
  g_is_one_of : mg "is_one_of" = some (.ref (He.ga K "is_one_of"))
  g_is_rule : mg "is_rule" = some (.ref (He.ga K "is_rule"))
  g_is_test : mg "is_test" = some (.ref (He.ga K "is_test"))
  g_law : mg "law" = some (.ref (He.ga K "law"))
  g_made : mg "made" = some (.ref (He.ga K "made"))
  g_mended : mg "mended" = some (.ref (He.ga K "mended"))
  g_mends_of : mg "mends_of" = some (.ref (He.ga K "mends_of"))
  m_Book : Mk K (He.ga K "Book") (He.ma K (He.ga K "Book") "__init__")
  mt_Book_len : Meth K (He.ga K "Book") "__len__" (He.ma K (He.ga K "Book") "__len__")
  mt_Book_with_rules : Meth K (He.ga K "Book") "with_rules" (He.ma K (He.ga K "Book") "with_rules")
  n_Book_close_word : NoAttr K (He.ga K "Book") "close_word"
  n_Book_given : NoAttr K (He.ga K "Book") "given"
  n_Book_join_word : NoAttr K (He.ga K "Book") "join_word"
  n_Book_lines : NoAttr K (He.ga K "Book") "lines"
  n_Book_names : NoAttr K (He.ga K "Book") "names"
  n_InvalidGrants_role : NoAttr K (He.ga K "InvalidGrants") "role"
  n_InvalidRule_index : NoAttr K (He.ga K "InvalidRule") "index"
  n_UnknownMend_index : NoAttr K (He.ga K "UnknownMend") "index"
  pr_Book_rules : PropOf K (He.ga K "Book") "rules" (He.ma K (He.ga K "Book") "rules") (getterOf K "Book" "rules")
  t_ANSWERS : KTup K "ANSWERS" ["refuse", "full", "least"]
  t_CLOSES : KTup K "CLOSES" ["keep", "take"]
  t_JOINS : KTup K "JOINS" ["greater", "less"]
  t_WORDS : KTup K "WORDS" ["closed", "in", "late", "low", "other", "poor", "spent", "taken"]
  x_InvalidBook : XCls K "InvalidBook"
  x_InvalidGrants : XCls K "InvalidGrants"
  x_InvalidRoles : XCls K "InvalidRoles"
  x_InvalidRule : XCls K "InvalidRule"
  x_UnknownMend : XCls K "UnknownMend"
  xb : XBase K "InviteError"
  xc_UnknownMend : ExcC K (He.ga K "UnknownMend")
  xf_InvalidRule : XfC K (He.ga K "InvalidRule")
  xf_UnknownMend : XfC K (He.ga K "UnknownMend")
  xk_UnknownMend_InviteError : PySem.W.kitOne K (.ref (He.ga K "UnknownMend")) (.ref (He.ga K "InviteError")) = some true
  xm : XMs K ["InvalidRoles", "InvalidGrants", "InvalidRule", "InvalidBook", "UnknownMend"]
def factsL (K : PySem.W.Frag) : List Bool := [
  (He.Fa.cls "Book").ok K,
  (He.Fa.free "all").ok K,
  (He.Fa.free "bool").ok K,
  (He.Fa.free "dict").ok K,
  (He.Fa.free "enumerate").ok K,
  (He.Fa.free "int").ok K,
  (He.Fa.free "isinstance").ok K,
  (He.Fa.free "len").ok K,
  (He.Fa.free "list").ok K,
  (He.Fa.free "range").ok K,
  (He.Fa.free "repr").ok K,
  (He.Fa.free "sorted").ok K,
  (He.Fa.free "str").ok K,
  (He.Fa.free "tuple").ok K,
  (He.Fa.free "zip").ok K,
  (He.Fa.glo "ANSWERS").ok K,
  (He.Fa.glo "Book").ok K,
  (He.Fa.glo "CLOSES").ok K,
  (He.Fa.glo "InvalidBook").ok K,
  (He.Fa.glo "InvalidGrants").ok K,
  (He.Fa.glo "InvalidRoles").ok K,
  (He.Fa.glo "InvalidRule").ok K,
  (He.Fa.glo "InviteError").ok K,
  (He.Fa.glo "JOINS").ok K,
  (He.Fa.str "LETTERS" "abcdefghijklmnopqrstuvwxyz").ok K,
  (He.Fa.int "MOST_DAYS" 2).ok K,
  (He.Fa.int "MOST_KINDS" 3).ok K,
  (He.Fa.int "MOST_ROLES" 4).ok K,
  (He.Fa.int "MOST_RULES" 6).ok K,
  (He.Fa.int "MOST_USES" 2).ok K,
  (He.Fa.glo "UnknownMend").ok K,
  (He.Fa.glo "WORDS").ok K,
  (He.Fa.glo "_law_all_mends").ok K,
  (He.Fa.glo "_law_book").ok K,
  (He.Fa.glo "_law_drawn").ok K,
  (He.Fa.glo "_law_due").ok K,
  (He.Fa.glo "_law_kind").ok K,
  (He.Fa.glo "_law_rule").ok K,
  (He.Fa.glo "_law_taken").ok K,
  (He.Fa.glo "_law_told").ok K,
  (He.Fa.glo "are_kinds").ok K,
  (He.Fa.glo "are_roles").ok K,
  (He.Fa.glo "check_grants").ok K,
  (He.Fa.glo "check_rules").ok K,
  (He.Fa.glo "is_integer").ok K,
  (He.Fa.glo "is_kind").ok K,
  (He.Fa.glo "is_mend").ok K,
  (He.Fa.glo "is_name").ok K,
  (He.Fa.glo "is_one_of").ok K,
  (He.Fa.glo "is_rule").ok K,
  (He.Fa.glo "is_test").ok K,
  (He.Fa.glo "law").ok K,
  (He.Fa.glo "made").ok K,
  (He.Fa.glo "mended").ok K,
  (He.Fa.glo "mends_of").ok K,
  (He.Fa.mkr "Book").ok K,
  (He.Fa.meth "Book" "__len__").ok K,
  (He.Fa.meth "Book" "with_rules").ok K,
  (He.Fa.noat "Book" "close_word").ok K,
  (He.Fa.noat "Book" "given").ok K,
  (He.Fa.noat "Book" "join_word").ok K,
  (He.Fa.noat "Book" "lines").ok K,
  (He.Fa.noat "Book" "names").ok K,
  (He.Fa.noat "InvalidGrants" "role").ok K,
  (He.Fa.noat "InvalidRule" "index").ok K,
  (He.Fa.noat "UnknownMend" "index").ok K,
  propB K "Book" "rules",
  ktB K "ANSWERS" ["refuse", "full", "least"],
  ktB K "CLOSES" ["keep", "take"],
  ktB K "JOINS" ["greater", "less"],
  ktB K "WORDS" ["closed", "in", "late", "low", "other", "poor", "spent", "taken"],
  xclsB K "InvalidBook",
  xclsB K "InvalidGrants",
  xclsB K "InvalidRoles",
  xclsB K "InvalidRule",
  xclsB K "UnknownMend",
  xbaseB K "InviteError",
  excB K (He.ga K "UnknownMend"),
  xfB K (He.ga K "InvalidRule"),
  xfB K (He.ga K "UnknownMend"),
  kitB K "UnknownMend" "InviteError" true,
  xmsB K ["InvalidRoles", "InvalidGrants", "InvalidRule", "InvalidBook", "UnknownMend"],
  noListB K]
theorem at_ {l : List Bool} (h : l.all id = true) (i : Nat) {b : Bool} (e : l[i]? = some b) : b = true := List.all_eq_true.mp h b (List.mem_of_getElem? e)
theorem fs_of {K : PySem.W.Frag} {h : Heap} {mg : Str → Option Value} (X : K.In h) (G : h.Ns mainGlobals mg) (b : (factsL K).all id = true) : Fs K mg :=
  ⟨He.cls_ok (at_ b 0 rfl), He.free_ok X G (at_ b 1 rfl), He.free_ok X G (at_ b 2 rfl), He.free_ok X G (at_ b 3 rfl), He.free_ok X G (at_ b 4 rfl), He.free_ok X G (at_ b 5 rfl), He.free_ok X G (at_ b 6 rfl), He.free_ok X G (at_ b 7 rfl), He.free_ok X G (at_ b 8 rfl), He.free_ok X G (at_ b 9 rfl), He.free_ok X G (at_ b 10 rfl), He.free_ok X G (at_ b 11 rfl), He.free_ok X G (at_ b 12 rfl), He.free_ok X G (at_ b 13 rfl), He.free_ok X G (at_ b 14 rfl), He.glo_ok X G (at_ b 15 rfl), He.glo_ok X G (at_ b 16 rfl), He.glo_ok X G (at_ b 17 rfl), He.glo_ok X G (at_ b 18 rfl), He.glo_ok X G (at_ b 19 rfl), He.glo_ok X G (at_ b 20 rfl), He.glo_ok X G (at_ b 21 rfl), He.glo_ok X G (at_ b 22 rfl), He.glo_ok X G (at_ b 23 rfl), He.str_ok X G (at_ b 24 rfl), He.int_ok X G (at_ b 25 rfl), He.int_ok X G (at_ b 26 rfl), He.int_ok X G (at_ b 27 rfl), He.int_ok X G (at_ b 28 rfl), He.int_ok X G (at_ b 29 rfl), He.glo_ok X G (at_ b 30 rfl), He.glo_ok X G (at_ b 31 rfl), He.glo_ok X G (at_ b 32 rfl), He.glo_ok X G (at_ b 33 rfl), He.glo_ok X G (at_ b 34 rfl), He.glo_ok X G (at_ b 35 rfl), He.glo_ok X G (at_ b 36 rfl), He.glo_ok X G (at_ b 37 rfl), He.glo_ok X G (at_ b 38 rfl), He.glo_ok X G (at_ b 39 rfl), He.glo_ok X G (at_ b 40 rfl), He.glo_ok X G (at_ b 41 rfl), He.glo_ok X G (at_ b 42 rfl), He.glo_ok X G (at_ b 43 rfl), He.glo_ok X G (at_ b 44 rfl), He.glo_ok X G (at_ b 45 rfl), He.glo_ok X G (at_ b 46 rfl), He.glo_ok X G (at_ b 47 rfl), He.glo_ok X G (at_ b 48 rfl), He.glo_ok X G (at_ b 49 rfl), He.glo_ok X G (at_ b 50 rfl), He.glo_ok X G (at_ b 51 rfl), He.glo_ok X G (at_ b 52 rfl), He.glo_ok X G (at_ b 53 rfl), He.glo_ok X G (at_ b 54 rfl), He.mkr_ok (at_ b 55 rfl), He.meth_ok (at_ b 56 rfl), He.meth_ok (at_ b 57 rfl), He.noat_ok (at_ b 58 rfl), He.noat_ok (at_ b 59 rfl), He.noat_ok (at_ b 60 rfl), He.noat_ok (at_ b 61 rfl), He.noat_ok (at_ b 62 rfl), He.noat_ok (at_ b 63 rfl), He.noat_ok (at_ b 64 rfl), He.noat_ok (at_ b 65 rfl), propB_ok (at_ b 66 rfl), ktB_ok (at_ b 67 rfl), ktB_ok (at_ b 68 rfl), ktB_ok (at_ b 69 rfl), ktB_ok (at_ b 70 rfl), xclsB_ok (at_ b 71 rfl), xclsB_ok (at_ b 72 rfl), xclsB_ok (at_ b 73 rfl), xclsB_ok (at_ b 74 rfl), xclsB_ok (at_ b 75 rfl), xbaseB_ok (at_ b 76 rfl), excB_ok (at_ b 77 rfl), xfB_ok (at_ b 78 rfl), xfB_ok (at_ b 79 rfl), kitB_ok (at_ b 80 rfl), xmsB_ok (at_ b 81 rfl)⟩
theorem nl_of {K : PySem.W.Frag} (b : (factsL K).all id = true) : noListB K = true := at_ b 82 rfl
/-! ### the defs -/
section
variable {P : Program} {w : World} {K : PySem.W.Frag} {mg : Str → Option Value} {base : Heap} {f : Addr} {fd : FuncData}
abbrev s_InvalidRoles : Stmt := mem (top 3) 0
theorem sc_InvalidRoles : FnScope ["self"] ["self"] (defScope s_InvalidRoles) := ⟨rfl, rfl, rfl, by decide +kernel, rfl, by decide +kernel, by decide +kernel⟩
theorem k_InvalidRoles (fs : Fs K mg) (Fd : FunD K "__init__" "InvalidRoles.__init__" (defArgs s_InvalidRoles) (defBody s_InvalidRoles) (defScope s_InvalidRoles) [] [] (He.ma K (He.ga K "InvalidRoles") "__init__") fd) : XQ0 P w K mg base "InvalidRoles" :=
  ⟨⟨fd, ["self"], Fd.ok sc_InvalidRoles (fun vs H Q E h => by obtain ⟨a, rfl, _⟩ := h; rfl) fun cdv A outer s H vs Q E hr h => ⟨_, (pss_one (ps_expr (pe_binit fs.xb rfl fs.g_InviteError (pa_cons (pv 0) (pa_cons pe_str pa_nil))))), x0_read fs.x_InvalidRoles.ox h⟩, Fd.bindsN fun _ _ _ _ _ _ us hl => match us, hl with | [_], _ => rfl⟩⟩

abbrev s_InvalidGrants : Stmt := mem (top 4) 0
theorem sc_InvalidGrants : FnScope ["self", "role"] ["self", "role"] (defScope s_InvalidGrants) := ⟨rfl, rfl, rfl, by decide +kernel, rfl, by decide +kernel, by decide +kernel⟩
theorem k_InvalidGrants (fs : Fs K mg) (Fd : FunD K "__init__" "InvalidGrants.__init__" (defArgs s_InvalidGrants) (defBody s_InvalidGrants) (defScope s_InvalidGrants) [] [] (He.ma K (He.ga K "InvalidGrants") "__init__") fd) : XQ1 P w K mg base "InvalidGrants" "role" :=
  ⟨⟨fd, ["self", "role"], Fd.ok sc_InvalidGrants (fun vs H Q E h => by obtain ⟨a, y, rfl, _⟩ := h; rfl) fun cdv A outer s H vs Q E hr h => ⟨_, (pss_cons (ps_expr (pe_binit fs.xb rfl fs.g_InviteError (pa_cons (pv 0) (pa_cons pe_str pa_nil)))) (pss_one (ps_ost (pv 0) (pv 1)))), x1_read fs.x_InvalidGrants.ox fs.n_InvalidGrants_role h⟩, Fd.bindsN fun _ _ _ _ _ _ us hl => match us, hl with | [_, _], _ => rfl⟩⟩

abbrev s_InvalidRule : Stmt := mem (top 5) 0
theorem sc_InvalidRule : FnScope ["self", "index"] ["self", "index"] (defScope s_InvalidRule) := ⟨rfl, rfl, rfl, by decide +kernel, rfl, by decide +kernel, by decide +kernel⟩
theorem k_InvalidRule (fs : Fs K mg) (Fd : FunD K "__init__" "InvalidRule.__init__" (defArgs s_InvalidRule) (defBody s_InvalidRule) (defScope s_InvalidRule) [] [] (He.ma K (He.ga K "InvalidRule") "__init__") fd) : XQ1 P w K mg base "InvalidRule" "index" :=
  ⟨⟨fd, ["self", "index"], Fd.ok sc_InvalidRule (fun vs H Q E h => by obtain ⟨a, y, rfl, _⟩ := h; rfl) fun cdv A outer s H vs Q E hr h => ⟨_, (pss_cons (ps_expr (pe_binit fs.xb rfl fs.g_InviteError (pa_cons (pv 0) (pa_cons pe_str pa_nil)))) (pss_one (ps_ost (pv 0) (pv 1)))), x1_read fs.x_InvalidRule.ox fs.n_InvalidRule_index h⟩, Fd.bindsN fun _ _ _ _ _ _ us hl => match us, hl with | [_, _], _ => rfl⟩⟩

abbrev s_InvalidBook : Stmt := mem (top 6) 0
theorem sc_InvalidBook : FnScope ["self"] ["self"] (defScope s_InvalidBook) := ⟨rfl, rfl, rfl, by decide +kernel, rfl, by decide +kernel, by decide +kernel⟩
theorem k_InvalidBook (fs : Fs K mg) (Fd : FunD K "__init__" "InvalidBook.__init__" (defArgs s_InvalidBook) (defBody s_InvalidBook) (defScope s_InvalidBook) [] [] (He.ma K (He.ga K "InvalidBook") "__init__") fd) : XQ0 P w K mg base "InvalidBook" :=
  ⟨⟨fd, ["self"], Fd.ok sc_InvalidBook (fun vs H Q E h => by obtain ⟨a, rfl, _⟩ := h; rfl) fun cdv A outer s H vs Q E hr h => ⟨_, (pss_one (ps_expr (pe_binit fs.xb rfl fs.g_InviteError (pa_cons (pv 0) (pa_cons pe_str pa_nil))))), x0_read fs.x_InvalidBook.ox h⟩, Fd.bindsN fun _ _ _ _ _ _ us hl => match us, hl with | [_], _ => rfl⟩⟩

abbrev s_UnknownMend : Stmt := mem (top 7) 0
theorem sc_UnknownMend : FnScope ["self", "index"] ["self", "index"] (defScope s_UnknownMend) := ⟨rfl, rfl, rfl, by decide +kernel, rfl, by decide +kernel, by decide +kernel⟩
theorem k_UnknownMend (fs : Fs K mg) (Fd : FunD K "__init__" "UnknownMend.__init__" (defArgs s_UnknownMend) (defBody s_UnknownMend) (defScope s_UnknownMend) [] [] (He.ma K (He.ga K "UnknownMend") "__init__") fd) : XQ1 P w K mg base "UnknownMend" "index" :=
  ⟨⟨fd, ["self", "index"], Fd.ok sc_UnknownMend (fun vs H Q E h => by obtain ⟨a, y, rfl, _⟩ := h; rfl) fun cdv A outer s H vs Q E hr h => ⟨_, (pss_cons (ps_expr (pe_binit fs.xb rfl fs.g_InviteError (pa_cons (pv 0) (pa_cons pe_str pa_nil)))) (pss_one (ps_ost (pv 0) (pv 1)))), x1_read fs.x_UnknownMend.ox fs.n_UnknownMend_index h⟩, Fd.bindsN fun _ _ _ _ _ _ us hl => match us, hl with | [_, _], _ => rfl⟩⟩

abbrev s_is_name : Stmt := top 19
theorem sc_is_name : FnScope ["thing", "sign"] ["thing"] (defScope s_is_name) := ⟨rfl, rfl, rfl, by decide +kernel, rfl, by decide +kernel, by decide +kernel⟩
def g_is_name : Iv.Env → SM := (sRet (eAnd (eA isiR (aCons (eV 0) (aCons (eC (.ty "str")) aNil))) (eAnd (eChain leR leR (eC (.int 1)) (eA lenR2 (aCons (eV 0) aNil)) (eC (.int 8))) (eA allR (aCons (eLc [1] (itA (eV 0)) (gN 1) tYes (e2 inR2 (eV 1) (eC (.str "abcdefghijklmnopqrstuvwxyz")))) aNil)))))
def f_is_name : List Iv.R → M Iv.R := runB 2 g_is_name
theorem k_is_name (fs : Fs K mg) (Fd : FunD K "is_name" "is_name" (defArgs s_is_name) (defBody s_is_name) (defScope s_is_name) [] [] f fd) : FnQ P w K mg base f 1 1 f_is_name :=
  FnQ.mk' Fd sc_is_name rfl (Fd.bindsN fun _ _ _ _ _ _ us hl => match us, hl with | [_], _ => rfl) rfl fun cdv A outer s H E hr => by
    have hN := (sc_is_name).nd
    have hu := room65 hr
    have hu4 := room64 hr
    have hu1 := room1 hr
    have tk := takes_of (E := E) (X := cxOf (L2.CX P w) P w K mg base ["thing", "sign"] "is_name" (defScope s_is_name) f cdv A outer s H E) rfl rfl rfl rfl
    exact (q_one (q_ret (q_eand (q_callB cq_isi rfl fs.f_isinstance rfl (q_acons (q_var (pv 0)) (q_acons (q_ty rfl fs.f_str rfl) q_anil))) (q_eand (q_chain (pe_chain oq_le oq_le q_int (q_callB cq_len2 rfl fs.f_len rfl (q_acons (q_var (pv 0)) q_anil)) q_int)) (q_eand1 (q_callB (cq_all rfl) rfl fs.f_all rfl (q_acons (q_lc rfl hN (q_ita (q_var (pv 0))) (own := [("sign", 1)]) (blk_ok rfl) (by decide) (fun _ _ _ _ _ => (q_gn (i := 1) hN rfl (.inl rfl))) (fun _ _ _ _ _ => pts_yes) (fun _ _ _ _ _ => (q_cmp (oq_in2 hu) (q_var (pv 1)) (q_gstr rfl fs.g_LETTERS)))) q_anil)))))))

abbrev s_is_integer : Stmt := top 20
theorem sc_is_integer : FnScope ["thing"] ["thing"] (defScope s_is_integer) := ⟨rfl, rfl, rfl, by decide +kernel, rfl, by decide +kernel, by decide +kernel⟩
def g_is_integer : Iv.Env → SM := (sRet (eAnd (eA isiR (aCons (eV 0) (aCons (eC (.ty "int")) aNil))) (eNot (eA isiR (aCons (eV 0) (aCons (eC (.ty "bool")) aNil))))))
def f_is_integer : List Iv.R → M Iv.R := runB 1 g_is_integer
theorem k_is_integer (fs : Fs K mg) (Fd : FunD K "is_integer" "is_integer" (defArgs s_is_integer) (defBody s_is_integer) (defScope s_is_integer) [] [] f fd) : FnQ P w K mg base f 1 1 f_is_integer :=
  FnQ.mk' Fd sc_is_integer rfl (Fd.bindsN fun _ _ _ _ _ _ us hl => match us, hl with | [_], _ => rfl) rfl fun cdv A outer s H E hr => by
    have hN := (sc_is_integer).nd
    have hu := room65 hr
    have hu4 := room64 hr
    have hu1 := room1 hr
    have tk := takes_of (E := E) (X := cxOf (L2.CX P w) P w K mg base ["thing"] "is_integer" (defScope s_is_integer) f cdv A outer s H E) rfl rfl rfl rfl
    exact (q_one (q_ret (q_eand (q_callB cq_isi rfl fs.f_isinstance rfl (q_acons (q_var (pv 0)) (q_acons (q_ty rfl fs.f_int rfl) q_anil))) (q_eand1 (q_enot (q_callB cq_isi rfl fs.f_isinstance rfl (q_acons (q_var (pv 0)) (q_acons (q_ty rfl fs.f_bool rfl) q_anil))))))))

abbrev s_is_one_of : Stmt := top 21
theorem sc_is_one_of : FnScope ["thing", "words"] ["thing", "words"] (defScope s_is_one_of) := ⟨rfl, rfl, rfl, by decide +kernel, rfl, by decide +kernel, by decide +kernel⟩
def g_is_one_of : Iv.Env → SM := (sRet (eAnd (eA isiR (aCons (eV 0) (aCons (eC (.ty "str")) aNil))) (e2 inR2 (eV 0) (eV 1))))
def f_is_one_of : List Iv.R → M Iv.R := runB 2 g_is_one_of
theorem k_is_one_of (fs : Fs K mg) (Fd : FunD K "is_one_of" "is_one_of" (defArgs s_is_one_of) (defBody s_is_one_of) (defScope s_is_one_of) [] [] f fd) : FnQ P w K mg base f 1 2 f_is_one_of :=
  FnQ.mk' Fd sc_is_one_of rfl (Fd.bindsN fun _ _ _ _ _ _ us hl => match us, hl with | [_, _], _ => rfl) rfl fun cdv A outer s H E hr => by
    have hN := (sc_is_one_of).nd
    have hu := room65 hr
    have hu4 := room64 hr
    have hu1 := room1 hr
    have tk := takes_of (E := E) (X := cxOf (L2.CX P w) P w K mg base ["thing", "words"] "is_one_of" (defScope s_is_one_of) f cdv A outer s H E) rfl rfl rfl rfl
    exact (q_one (q_ret (q_eand (q_callB cq_isi rfl fs.f_isinstance rfl (q_acons (q_var (pv 0)) (q_acons (q_ty rfl fs.f_str rfl) q_anil))) (q_eand1 (q_cmp (oq_in2 hu) (q_var (pv 0)) (q_var (pv 1)))))))

abbrev s_are_roles : Stmt := top 22
theorem sc_are_roles : FnScope ["thing", "name"] ["thing"] (defScope s_are_roles) := ⟨rfl, rfl, rfl, by decide +kernel, rfl, by decide +kernel, by decide +kernel⟩
def g_are_roles : Iv.Env → SM := (sSeq (sIf (tOrM (tNotM (tV (eA isiR (aCons (eV 0) (aCons (eC (.ty "tuple")) aNil))))) (tOrM (tNotM (tV (eChain leR leR (eC (.int 1)) (eA lenR2 (aCons (eV 0) aNil)) (eC (.int 4))))) (tNotM (tV (eA allR (aCons (eLc [1] (itA (eV 0)) (gN 1) tYes (eCallP 1 f_is_name (aCons (eV 1) aNil))) aNil)))))) (sRet (eC (.bl false))) sNil) (sRet (e2 eqR (eA lenR2 (aCons (eDc [1] (itA (eV 0)) (gN 1) tYes (eV 1) (eC (.bl true))) aNil)) (eA lenR2 (aCons (eV 0) aNil)))))
def f_are_roles : List Iv.R → M Iv.R := runB 2 g_are_roles
theorem k_are_roles (fs : Fs K mg) (c_is_name : FnQ P w K mg base (He.ga K "is_name") 1 1 f_is_name) (Fd : FunD K "are_roles" "are_roles" (defArgs s_are_roles) (defBody s_are_roles) (defScope s_are_roles) [] [] f fd) : FnQ P w K mg base f 2 1 f_are_roles :=
  FnQ.mk' Fd sc_are_roles rfl (Fd.bindsN fun _ _ _ _ _ _ us hl => match us, hl with | [_], _ => rfl) rfl fun cdv A outer s H E hr => by
    have hN := (sc_are_roles).nd
    have hu := room65 hr
    have hu4 := room64 hr
    have hu1 := room1 hr
    have tk := takes_of (E := E) (X := cxOf (L2.CX P w) P w K mg base ["thing", "name"] "are_roles" (defScope s_are_roles) f cdv A outer s H E) rfl rfl rfl rfl
    exact (q_cons (q_sif (q_w (q_or (q_tnot (q_test (q_callB cq_isi rfl fs.f_isinstance rfl (q_acons (q_var (pv 0)) (q_acons (q_ty rfl fs.f_tuple rfl) q_anil))))) (q_or (q_tnot (q_tchain (pt_chain oq_le oq_le q_int (q_callB cq_len2 rfl fs.f_len rfl (q_acons (q_var (pv 0)) q_anil)) (q_gint rfl fs.g_MOST_ROLES)))) (q_or1 (q_tnot (q_test (q_callB (cq_all rfl) rfl fs.f_all rfl (q_acons (q_lc rfl hN (q_ita (q_var (pv 0))) (own := [("name", 1)]) (blk_ok rfl) (by decide) (fun _ _ _ _ _ => (q_gn (i := 1) hN rfl (.inl rfl))) (fun _ _ _ _ _ => pts_yes) (fun _ _ _ _ _ => (q_callP c_is_name (hr.mono (by decide)) rfl fs.g_is_name takes0 (q_acons (q_var (pv 1)) q_anil)))) q_anil)))))))) (q_one (q_ret q_bl)) q_nil) (q_one (q_ret (q_cmp (oq_eq hu4) (q_callB cq_len2 rfl fs.f_len rfl (q_acons (q_dc rfl hN (q_ita (q_var (pv 0))) (own := [("name", 1)]) (blk_ok rfl) (by decide) (fun _ _ _ _ _ => (q_gn (i := 1) hN rfl (.inl rfl))) (fun _ _ _ _ _ => pts_yes) (fun _ _ _ _ _ => (q_var (pv 1))) (fun _ _ _ _ _ => q_bl)) q_anil)) (q_callB cq_len2 rfl fs.f_len rfl (q_acons (q_var (pv 0)) q_anil))))))

abbrev s_is_kind : Stmt := top 23
theorem sc_is_kind : FnScope ["thing", "roles"] ["thing", "roles"] (defScope s_is_kind) := ⟨rfl, rfl, rfl, by decide +kernel, rfl, by decide +kernel, by decide +kernel⟩
def g_is_kind : Iv.Env → SM := (sSeq (sIf (tOrM (tNotM (tV (eA isiR (aCons (eV 0) (aCons (eC (.ty "tuple")) aNil))))) (tOrM (tV (e2 neR (eA lenR2 (aCons (eV 0) aNil)) (eC (.int 4)))) (tNotM (tV (eCallP 2 f_is_one_of (aCons (e2 ixR2 (eV 0) (eC (.int 0))) (aCons (eV 1) aNil))))))) (sRet (eC (.bl false))) sNil) (sSeq (sIf (tOrM (tNotM (tV (eCallP 1 f_is_integer (aCons (e2 ixR2 (eV 0) (eC (.int 1))) aNil)))) (tOrM (tNotM (tV (eCallP 1 f_is_integer (aCons (e2 ixR2 (eV 0) (eC (.int 2))) aNil)))) (tNotM (tV (eA isiR (aCons (e2 ixR2 (eV 0) (eC (.int 3))) (aCons (eC (.ty "bool")) aNil))))))) (sRet (eC (.bl false))) sNil) (sRet (eAnd (eChain leR leR (eC (.int 0)) (e2 ixR2 (eV 0) (eC (.int 1))) (eC (.int 2))) (eChain leR leR (eC (.int 0)) (e2 ixR2 (eV 0) (eC (.int 2))) (eC (.int 2)))))))
def f_is_kind : List Iv.R → M Iv.R := runB 2 g_is_kind
theorem k_is_kind (fs : Fs K mg) (c_is_integer : FnQ P w K mg base (He.ga K "is_integer") 1 1 f_is_integer) (c_is_one_of : FnQ P w K mg base (He.ga K "is_one_of") 1 2 f_is_one_of) (Fd : FunD K "is_kind" "is_kind" (defArgs s_is_kind) (defBody s_is_kind) (defScope s_is_kind) [] [] f fd) : FnQ P w K mg base f 2 2 f_is_kind :=
  FnQ.mk' Fd sc_is_kind rfl (Fd.bindsN fun _ _ _ _ _ _ us hl => match us, hl with | [_, _], _ => rfl) rfl fun cdv A outer s H E hr => by
    have hN := (sc_is_kind).nd
    have hu := room65 hr
    have hu4 := room64 hr
    have hu1 := room1 hr
    have tk := takes_of (E := E) (X := cxOf (L2.CX P w) P w K mg base ["thing", "roles"] "is_kind" (defScope s_is_kind) f cdv A outer s H E) rfl rfl rfl rfl
    exact (q_cons (q_sif (q_w (q_or (q_tnot (q_test (q_callB cq_isi rfl fs.f_isinstance rfl (q_acons (q_var (pv 0)) (q_acons (q_ty rfl fs.f_tuple rfl) q_anil))))) (q_or (q_tcmp (oq_ne hu4) (q_callB cq_len2 rfl fs.f_len rfl (q_acons (q_var (pv 0)) q_anil)) q_int) (q_or1 (q_tnot (q_test (q_callP c_is_one_of (hr.mono (by decide)) rfl fs.g_is_one_of tk (q_acons (q_ix2 hu (q_var (pv 0)) q_int) (q_acons (q_var (pv 1)) q_anil))))))))) (q_one (q_ret q_bl)) q_nil) (q_cons (q_sif (q_w (q_or (q_tnot (q_test (q_callP c_is_integer (hr.mono (by decide)) rfl fs.g_is_integer tk (q_acons (q_ix2 hu (q_var (pv 0)) q_int) q_anil)))) (q_or (q_tnot (q_test (q_callP c_is_integer (hr.mono (by decide)) rfl fs.g_is_integer tk (q_acons (q_ix2 hu (q_var (pv 0)) q_int) q_anil)))) (q_or1 (q_tnot (q_test (q_callB cq_isi rfl fs.f_isinstance rfl (q_acons (q_ix2 hu (q_var (pv 0)) q_int) (q_acons (q_ty rfl fs.f_bool rfl) q_anil))))))))) (q_one (q_ret q_bl)) q_nil) (q_one (q_ret (q_eand (q_chain (pe_chain oq_le oq_le q_int (q_ix2 hu (q_var (pv 0)) q_int) (q_gint rfl fs.g_MOST_USES))) (q_eand1 (q_chain (pe_chain oq_le oq_le q_int (q_ix2 hu (q_var (pv 0)) q_int) (q_gint rfl fs.g_MOST_DAYS)))))))))

abbrev s_are_kinds : Stmt := top 24
theorem sc_are_kinds : FnScope ["thing", "roles", "kind"] ["thing", "roles"] (defScope s_are_kinds) := ⟨rfl, rfl, rfl, by decide +kernel, rfl, by decide +kernel, by decide +kernel⟩
def g_are_kinds : Iv.Env → SM := (sSeq (sIf (tOrM (tNotM (tV (eA isiR (aCons (eV 0) (aCons (eC (.ty "tuple")) aNil))))) (tNotM (tV (eChain leR leR (eC (.int 1)) (eA lenR2 (aCons (eV 0) aNil)) (eC (.int 3)))))) (sRet (eC (.bl false))) sNil) (sRet (eAnd (eA allR (aCons (eLc [2] (itA (eV 0)) (gN 2) tYes (eCallP 2 f_is_kind (aCons (eV 2) (aCons (eV 1) aNil)))) aNil)) (e2 eqR (eA lenR2 (aCons (eDcT true (eV 0)) aNil)) (eA lenR2 (aCons (eV 0) aNil))))))
def f_are_kinds : List Iv.R → M Iv.R := runB 3 g_are_kinds
theorem k_are_kinds (fs : Fs K mg) (c_is_kind : FnQ P w K mg base (He.ga K "is_kind") 2 2 f_is_kind) (Fd : FunD K "are_kinds" "are_kinds" (defArgs s_are_kinds) (defBody s_are_kinds) (defScope s_are_kinds) [] [] f fd) : FnQ P w K mg base f 3 2 f_are_kinds :=
  FnQ.mk' Fd sc_are_kinds rfl (Fd.bindsN fun _ _ _ _ _ _ us hl => match us, hl with | [_, _], _ => rfl) rfl fun cdv A outer s H E hr => by
    have hN := (sc_are_kinds).nd
    have hu := room65 hr
    have hu4 := room64 hr
    have hu1 := room1 hr
    have tk := takes_of (E := E) (X := cxOf (L2.CX P w) P w K mg base ["thing", "roles", "kind"] "are_kinds" (defScope s_are_kinds) f cdv A outer s H E) rfl rfl rfl rfl
    exact (q_cons (q_sif (q_w (q_or (q_tnot (q_test (q_callB cq_isi rfl fs.f_isinstance rfl (q_acons (q_var (pv 0)) (q_acons (q_ty rfl fs.f_tuple rfl) q_anil))))) (q_or1 (q_tnot (q_tchain (pt_chain oq_le oq_le q_int (q_callB cq_len2 rfl fs.f_len rfl (q_acons (q_var (pv 0)) q_anil)) (q_gint rfl fs.g_MOST_KINDS))))))) (q_one (q_ret q_bl)) q_nil) (q_one (q_ret (q_eand (q_callB (cq_all rfl) rfl fs.f_all rfl (q_acons (q_lc rfl hN (q_ita (q_var (pv 0))) (own := [("kind", 2)]) (blk_ok rfl) (by decide) (fun _ _ _ _ _ => (q_gn (i := 2) hN rfl (.inl rfl))) (fun _ _ _ _ _ => pts_yes) (fun _ _ _ _ _ => (q_callP c_is_kind (hr.mono (by decide)) rfl fs.g_is_kind takes0 (q_acons (q_var (pv 2)) (q_acons (q_var (pv 1)) q_anil))))) q_anil)) (q_eand1 (q_cmp (oq_eq hu4) (q_callB cq_len2 rfl fs.f_len rfl (q_acons (q_dcT rfl (room9 hr) (q_var (pv 0)) (by decide +kernel) (by decide +kernel) rfl (by decide +kernel) (fun _ => rfl) (fun _ => rfl)) q_anil)) (q_callB cq_len2 rfl fs.f_len rfl (q_acons (q_var (pv 0)) q_anil))))))))

abbrev s_check_grants : Stmt := top 25
theorem sc_check_grants : FnScope ["thing", "roles", "role"] ["thing", "roles"] (defScope s_check_grants) := ⟨rfl, rfl, rfl, by decide +kernel, rfl, by decide +kernel, by decide +kernel⟩
def g_check_grants : Iv.Env → SM := (sSeq (sIf (tOrM (tNotM (tV (eA isiR (aCons (eV 0) (aCons (eC (.ty "dict")) aNil))))) (tNotM (tV (eA allR (aCons (eLc [2] (itA (eV 0)) (gN 2) tYes (eCallP 2 f_is_one_of (aCons (eV 2) (aCons (eV 1) aNil)))) aNil))))) (sRaise "InvalidGrants" ["role"] (aCons (eC (.str "")) aNil)) sNil) (sFor (itA (eV 1)) (gN 2) (sIf (tAndM (tV (e2 inR2 (eV 2) (eV 0))) (tNotM (tV (eCallP 2 f_are_kinds (aCons (e2 ixR2 (eV 0) (eV 2)) (aCons (eV 1) aNil)))))) (sRaise "InvalidGrants" ["role"] (aCons (eV 2) aNil)) sNil)))
def f_check_grants : List Iv.R → M Iv.R := runB 3 g_check_grants
theorem k_check_grants (fs : Fs K mg) (c_InvalidGrants : XQ1 P w K mg base "InvalidGrants" "role") (c_are_kinds : FnQ P w K mg base (He.ga K "are_kinds") 3 2 f_are_kinds) (c_is_one_of : FnQ P w K mg base (He.ga K "is_one_of") 1 2 f_is_one_of) (Fd : FunD K "check_grants" "check_grants" (defArgs s_check_grants) (defBody s_check_grants) (defScope s_check_grants) [] [] f fd) : FnQ P w K mg base f 4 2 f_check_grants :=
  FnQ.mk' Fd sc_check_grants rfl (Fd.bindsN fun _ _ _ _ _ _ us hl => match us, hl with | [_, _], _ => rfl) rfl fun cdv A outer s H E hr => by
    have hN := (sc_check_grants).nd
    have hu := room65 hr
    have hu4 := room64 hr
    have hu1 := room1 hr
    have tk := takes_of (E := E) (X := cxOf (L2.CX P w) P w K mg base ["thing", "roles", "role"] "check_grants" (defScope s_check_grants) f cdv A outer s H E) rfl rfl rfl rfl
    exact (q_cons (q_sif (q_w (q_or (q_tnot (q_test (q_callB cq_isi rfl fs.f_isinstance rfl (q_acons (q_var (pv 0)) (q_acons (q_ty rfl fs.f_dict rfl) q_anil))))) (q_or1 (q_tnot (q_test (q_callB (cq_all rfl) rfl fs.f_all rfl (q_acons (q_lc rfl hN (q_ita (q_var (pv 0))) (own := [("role", 2)]) (blk_ok rfl) (by decide) (fun _ _ _ _ _ => (q_gn (i := 2) hN rfl (.inl rfl))) (fun _ _ _ _ _ => pts_yes) (fun _ _ _ _ _ => (q_callP c_is_one_of (hr.mono (by decide)) rfl fs.g_is_one_of takes0 (q_acons (q_var (pv 2)) (q_acons (q_var (pv 1)) q_anil))))) q_anil))))))) (q_one (q_rs1 fs.x_InvalidGrants c_InvalidGrants (hr.mono (by decide)) rfl fs.g_InvalidGrants rfl tk (q_acons q_str q_anil))) q_nil) (q_one (q_for (passes_of rfl) rfl (q_ita (q_var (pv 1))) (q_gn (i := 2) hN rfl (.inl rfl)) (q_one (q_sif (q_w (q_and (q_tcmp (oq_in2 hu) (q_var (pv 2)) (q_var (pv 0))) (q_and1 (q_tnot (q_test (q_callP c_are_kinds (hr.mono (by decide)) rfl fs.g_are_kinds tk (q_acons (q_ix2 hu (q_var (pv 0)) (q_var (pv 2))) (q_acons (q_var (pv 1)) q_anil)))))))) (q_one (q_rs1 fs.x_InvalidGrants c_InvalidGrants (hr.mono (by decide)) rfl fs.g_InvalidGrants rfl tk (q_acons (q_var (pv 2)) q_anil))) q_nil)))))

abbrev s_is_test : Stmt := top 26
theorem sc_is_test : FnScope ["thing"] ["thing"] (defScope s_is_test) := ⟨rfl, rfl, rfl, by decide +kernel, rfl, by decide +kernel, by decide +kernel⟩
def g_is_test : Iv.Env → SM := (sSeq (sIf (tOrM (tNotM (tV (eA isiR (aCons (eV 0) (aCons (eC (.ty "tuple")) aNil))))) (tOrM (tV (e2 neR (eA lenR2 (aCons (eV 0) aNil)) (eC (.int 2)))) (tNotM (tV (eCallP 2 f_is_one_of (aCons (e2 ixR2 (eV 0) (eC (.int 0))) (aCons (eC (.tup ((["closed", "in", "late", "low", "other", "poor", "spent", "taken"] : List Str).map W.str))) aNil))))))) (sRet (eC (.bl false))) sNil) (sRet (eA isiR (aCons (e2 ixR2 (eV 0) (eC (.int 1))) (aCons (eC (.ty "bool")) aNil)))))
def f_is_test : List Iv.R → M Iv.R := runB 1 g_is_test
theorem k_is_test (fs : Fs K mg) (c_is_one_of : FnQ P w K mg base (He.ga K "is_one_of") 1 2 f_is_one_of) (Fd : FunD K "is_test" "is_test" (defArgs s_is_test) (defBody s_is_test) (defScope s_is_test) [] [] f fd) : FnQ P w K mg base f 2 1 f_is_test :=
  FnQ.mk' Fd sc_is_test rfl (Fd.bindsN fun _ _ _ _ _ _ us hl => match us, hl with | [_], _ => rfl) rfl fun cdv A outer s H E hr => by
    have hN := (sc_is_test).nd
    have hu := room65 hr
    have hu4 := room64 hr
    have hu1 := room1 hr
    have tk := takes_of (E := E) (X := cxOf (L2.CX P w) P w K mg base ["thing"] "is_test" (defScope s_is_test) f cdv A outer s H E) rfl rfl rfl rfl
    exact (q_cons (q_sif (q_w (q_or (q_tnot (q_test (q_callB cq_isi rfl fs.f_isinstance rfl (q_acons (q_var (pv 0)) (q_acons (q_ty rfl fs.f_tuple rfl) q_anil))))) (q_or (q_tcmp (oq_ne hu4) (q_callB cq_len2 rfl fs.f_len rfl (q_acons (q_var (pv 0)) q_anil)) q_int) (q_or1 (q_tnot (q_test (q_callP c_is_one_of (hr.mono (by decide)) rfl fs.g_is_one_of tk (q_acons (q_ix2 hu (q_var (pv 0)) q_int) (q_acons (q_gtup rfl fs.g_WORDS fs.t_WORDS) q_anil))))))))) (q_one (q_ret q_bl)) q_nil) (q_one (q_ret (q_callB cq_isi rfl fs.f_isinstance rfl (q_acons (q_ix2 hu (q_var (pv 0)) q_int) (q_acons (q_ty rfl fs.f_bool rfl) q_anil))))))

abbrev s_is_rule : Stmt := top 27
theorem sc_is_rule : FnScope ["thing", "words", "word", "truth", "one", "other", "test"] ["thing"] (defScope s_is_rule) := ⟨rfl, rfl, rfl, by decide +kernel, rfl, by decide +kernel, by decide +kernel⟩
def g_is_rule : Iv.Env → SM := (sSeq (sIf (tOrM (tNotM (tV (eA isiR (aCons (eV 0) (aCons (eC (.ty "tuple")) aNil))))) (tOrM (tV (e2 neR (eA lenR2 (aCons (eV 0) aNil)) (eC (.int 2)))) (tNotM (tV (eA isiR (aCons (e2 ixR2 (eV 0) (eC (.int 0))) (aCons (eC (.ty "tuple")) aNil))))))) (sRet (eC (.bl false))) sNil) (sSeq (sIf (tOrM (tNotM (tV (eA allR (aCons (eLc [6] (itA (e2 ixR2 (eV 0) (eC (.int 0)))) (gN 6) tYes (eCallP 1 f_is_test (aCons (eV 6) aNil))) aNil)))) (tNotM (tV (eCallP 2 f_is_one_of (aCons (e2 ixR2 (eV 0) (eC (.int 1))) (aCons (eC (.tup ((["refuse", "full", "least"] : List Str).map W.str))) aNil)))))) (sRet (eC (.bl false))) sNil) (sSeq (sSet 1 (eLc [2, 3] (itA (e2 ixR2 (eV 0) (eC (.int 0)))) (gTp 2 (gsCons (gN 2) (gsCons (gN 3) gsNil))) tYes (eV 2))) (sRet (eA allR (aCons (eLc [4, 5] (itZ (eV 1) (eSl (eV 1) (oSome (eC (.int 1))) oNo)) (gTp 2 (gsCons (gN 4) (gsCons (gN 5) gsNil))) tYes (e2 ltR (eV 4) (eV 5))) aNil))))))
def f_is_rule : List Iv.R → M Iv.R := runB 7 g_is_rule
theorem k_is_rule (fs : Fs K mg) (c_is_one_of : FnQ P w K mg base (He.ga K "is_one_of") 1 2 f_is_one_of) (c_is_test : FnQ P w K mg base (He.ga K "is_test") 2 1 f_is_test) (Fd : FunD K "is_rule" "is_rule" (defArgs s_is_rule) (defBody s_is_rule) (defScope s_is_rule) [] [] f fd) : FnQ P w K mg base f 3 1 f_is_rule :=
  FnQ.mk' Fd sc_is_rule rfl (Fd.bindsN fun _ _ _ _ _ _ us hl => match us, hl with | [_], _ => rfl) rfl fun cdv A outer s H E hr => by
    have hN := (sc_is_rule).nd
    have hu := room65 hr
    have hu4 := room64 hr
    have hu1 := room1 hr
    have tk := takes_of (E := E) (X := cxOf (L2.CX P w) P w K mg base ["thing", "words", "word", "truth", "one", "other", "test"] "is_rule" (defScope s_is_rule) f cdv A outer s H E) rfl rfl rfl rfl
    exact (q_cons (q_sif (q_w (q_or (q_tnot (q_test (q_callB cq_isi rfl fs.f_isinstance rfl (q_acons (q_var (pv 0)) (q_acons (q_ty rfl fs.f_tuple rfl) q_anil))))) (q_or (q_tcmp (oq_ne hu4) (q_callB cq_len2 rfl fs.f_len rfl (q_acons (q_var (pv 0)) q_anil)) q_int) (q_or1 (q_tnot (q_test (q_callB cq_isi rfl fs.f_isinstance rfl (q_acons (q_ix2 hu (q_var (pv 0)) q_int) (q_acons (q_ty rfl fs.f_tuple rfl) q_anil))))))))) (q_one (q_ret q_bl)) q_nil) (q_cons (q_sif (q_w (q_or (q_tnot (q_test (q_callB (cq_all rfl) rfl fs.f_all rfl (q_acons (q_lc rfl hN (q_ita (q_ix2 hu (q_var (pv 0)) q_int)) (own := [("test", 6)]) (blk_ok rfl) (by decide) (fun _ _ _ _ _ => (q_gn (i := 6) hN rfl (.inl rfl))) (fun _ _ _ _ _ => pts_yes) (fun _ _ _ _ _ => (q_callP c_is_test (hr.mono (by decide)) rfl fs.g_is_test takes0 (q_acons (q_var (pv 6)) q_anil)))) q_anil)))) (q_or1 (q_tnot (q_test (q_callP c_is_one_of (hr.mono (by decide)) rfl fs.g_is_one_of tk (q_acons (q_ix2 hu (q_var (pv 0)) q_int) (q_acons (q_gtup rfl fs.g_ANSWERS fs.t_ANSWERS) q_anil)))))))) (q_one (q_ret q_bl)) q_nil) (q_cons (q_setLc (i := 1) rfl hN rfl rfl rfl (q_ita (q_ix2 hu (q_var (pv 0)) q_int)) (own := [("word", 2), ("truth", 3)]) (blk_ok rfl) (by decide) (fun _ _ _ _ _ => (q_gtp rfl (q_gscons (q_gn (i := 2) hN rfl (.inl rfl)) (q_gscons (q_gn (i := 3) hN rfl (.inl rfl)) q_gsnil)))) (fun _ _ _ _ _ => pts_yes) (fun _ _ _ _ _ => (q_var (pv 2)))) (q_one (q_ret (q_callB (cq_all rfl) rfl fs.f_all rfl (q_acons (q_lc rfl hN (q_itz rfl fs.f_zip (q_var (pv 1)) (q_sl (q_var (pv 1)) (q_osome q_int) q_ono)) (own := [("one", 4), ("other", 5)]) (blk_ok rfl) (by decide) (fun _ _ _ _ _ => (q_gtp rfl (q_gscons (q_gn (i := 4) hN rfl (.inl rfl)) (q_gscons (q_gn (i := 5) hN rfl (.inl rfl)) q_gsnil)))) (fun _ _ _ _ _ => pts_yes) (fun _ _ _ _ _ => (q_cmp oq_lt (q_var (pv 4)) (q_var (pv 5))))) q_anil)))))))

abbrev s_check_rules : Stmt := top 28
theorem sc_check_rules : FnScope ["thing", "index", "rule"] ["thing"] (defScope s_check_rules) := ⟨rfl, rfl, rfl, by decide +kernel, rfl, by decide +kernel, by decide +kernel⟩
def g_check_rules : Iv.Env → SM := (sSeq (sIf (tNotM (tV (eA isiR (aCons (eV 0) (aCons (eC (.ty "tuple")) aNil))))) (sRaise "InvalidRule" ["index"] (aCons (e1 negR (eC (.int 1))) aNil)) sNil) (sFor (itE (eV 0)) (gTp 2 (gsCons (gN 1) (gsCons (gN 2) gsNil))) (sIf (tOrM (tV (e2 eqR (eV 1) (eC (.int 6)))) (tNotM (tV (eCallP 1 f_is_rule (aCons (eV 2) aNil))))) (sRaise "InvalidRule" ["index"] (aCons (eV 1) aNil)) sNil)))
def f_check_rules : List Iv.R → M Iv.R := runB 3 g_check_rules
theorem k_check_rules (fs : Fs K mg) (c_InvalidRule : XQ1 P w K mg base "InvalidRule" "index") (c_is_rule : FnQ P w K mg base (He.ga K "is_rule") 3 1 f_is_rule) (Fd : FunD K "check_rules" "check_rules" (defArgs s_check_rules) (defBody s_check_rules) (defScope s_check_rules) [] [] f fd) : FnQ P w K mg base f 4 1 f_check_rules :=
  FnQ.mk' Fd sc_check_rules rfl (Fd.bindsN fun _ _ _ _ _ _ us hl => match us, hl with | [_], _ => rfl) rfl fun cdv A outer s H E hr => by
    have hN := (sc_check_rules).nd
    have hu := room65 hr
    have hu4 := room64 hr
    have hu1 := room1 hr
    have tk := takes_of (E := E) (X := cxOf (L2.CX P w) P w K mg base ["thing", "index", "rule"] "check_rules" (defScope s_check_rules) f cdv A outer s H E) rfl rfl rfl rfl
    exact (q_cons (q_sif (q_tnot (q_test (q_callB cq_isi rfl fs.f_isinstance rfl (q_acons (q_var (pv 0)) (q_acons (q_ty rfl fs.f_tuple rfl) q_anil))))) (q_one (q_rs1 fs.x_InvalidRule c_InvalidRule (hr.mono (by decide)) rfl fs.g_InvalidRule rfl tk (q_acons (q_neg q_int) q_anil))) q_nil) (q_one (q_for (passes_of rfl) rfl (q_ite rfl fs.f_enumerate (q_var (pv 0))) (q_gtp rfl (q_gscons (q_gn (i := 1) hN rfl (.inl rfl)) (q_gscons (q_gn (i := 2) hN rfl (.inl rfl)) q_gsnil))) (q_one (q_sif (q_w (q_or (q_tcmp (oq_eq hu4) (q_var (pv 1)) (q_gint rfl fs.g_MOST_RULES)) (q_or1 (q_tnot (q_test (q_callP c_is_rule (hr.mono (by decide)) rfl fs.g_is_rule tk (q_acons (q_var (pv 2)) q_anil))))))) (q_one (q_rs1 fs.x_InvalidRule c_InvalidRule (hr.mono (by decide)) rfl fs.g_InvalidRule rfl tk (q_acons (q_var (pv 1)) q_anil))) q_nil)))))

abbrev s_Book__init : Stmt := mem (top 29) 0
theorem sc_Book__init : FnScope ["self", "roles", "grants", "rules", "close", "join", "role"] ["self", "roles", "grants", "rules", "close", "join"] (defScope s_Book__init) := ⟨rfl, rfl, rfl, by decide +kernel, rfl, by decide +kernel, by decide +kernel⟩
def g_Book__init : Iv.Env → SM := (sSeq (sIf (tNotM (tV (eCallP 1 f_are_roles (aCons (eV 1) aNil)))) (sRaise "InvalidRoles" [] aNil) sNil) (sSeq (sExpr (eCallP 2 f_check_grants (aCons (eV 2) (aCons (eV 1) aNil)))) (sSeq (sExpr (eCallP 1 f_check_rules (aCons (eV 3) aNil))) (sSeq (sIf (tOrM (tNotM (tV (eCallP 2 f_is_one_of (aCons (eV 4) (aCons (eC (.tup ((["keep", "take"] : List Str).map W.str))) aNil))))) (tNotM (tV (eCallP 2 f_is_one_of (aCons (eV 5) (aCons (eC (.tup ((["greater", "less"] : List Str).map W.str))) aNil)))))) (sRaise "InvalidBook" [] aNil) sNil) (sSeq (sFld "Book" "names" (eV 0) (eV 1)) (sSeq (sFld "Book" "given" (eV 0) (eDc [6] (itA (eV 1)) (gN 6) (tV (e2 inR2 (eV 6) (eV 2))) (eV 6) (e2 ixR2 (eV 2) (eV 6)))) (sSeq (sFld "Book" "lines" (eV 0) (eV 3)) (sSeq (sFld "Book" "close_word" (eV 0) (eV 4)) (sFld "Book" "join_word" (eV 0) (eV 5))))))))))
def f_Book__init : List Iv.R → M Iv.R := runB 7 g_Book__init
theorem k_Book__init (fs : Fs K mg) (c_InvalidBook : XQ0 P w K mg base "InvalidBook") (c_InvalidRoles : XQ0 P w K mg base "InvalidRoles") (c_are_roles : FnQ P w K mg base (He.ga K "are_roles") 2 1 f_are_roles) (c_check_grants : FnQ P w K mg base (He.ga K "check_grants") 4 2 f_check_grants) (c_check_rules : FnQ P w K mg base (He.ga K "check_rules") 4 1 f_check_rules) (c_is_one_of : FnQ P w K mg base (He.ga K "is_one_of") 1 2 f_is_one_of) (Fd : FunD K "__init__" "Book.__init__" (defArgs s_Book__init) (defBody s_Book__init) (defScope s_Book__init) [] [] f fd) : FnQ P w K mg base f 5 6 f_Book__init :=
  FnQ.mk' Fd sc_Book__init rfl (Fd.bindsN fun _ _ _ _ _ _ us hl => match us, hl with | [_, _, _, _, _, _], _ => rfl) rfl fun cdv A outer s H E hr => by
    have hN := (sc_Book__init).nd
    have hu := room65 hr
    have hu4 := room64 hr
    have hu1 := room1 hr
    have tk := takes_of (E := E) (X := cxOf (L2.CX P w) P w K mg base ["self", "roles", "grants", "rules", "close", "join", "role"] "Book.__init__" (defScope s_Book__init) f cdv A outer s H E) rfl rfl rfl rfl
    exact (q_cons (q_sif (q_tnot (q_test (q_callP c_are_roles (hr.mono (by decide)) rfl fs.g_are_roles tk (q_acons (q_var (pv 1)) q_anil)))) (q_one (q_rs0 fs.x_InvalidRoles c_InvalidRoles (hr.mono (by decide)) rfl fs.g_InvalidRoles rfl tk)) q_nil) (q_cons (q_expr (q_callP c_check_grants (hr.mono (by decide)) rfl fs.g_check_grants tk (q_acons (q_var (pv 2)) (q_acons (q_var (pv 1)) q_anil)))) (q_cons (q_expr (q_callP c_check_rules (hr.mono (by decide)) rfl fs.g_check_rules tk (q_acons (q_var (pv 3)) q_anil))) (q_cons (q_sif (q_w (q_or (q_tnot (q_test (q_callP c_is_one_of (hr.mono (by decide)) rfl fs.g_is_one_of tk (q_acons (q_var (pv 4)) (q_acons (q_gtup rfl fs.g_CLOSES fs.t_CLOSES) q_anil))))) (q_or1 (q_tnot (q_test (q_callP c_is_one_of (hr.mono (by decide)) rfl fs.g_is_one_of tk (q_acons (q_var (pv 5)) (q_acons (q_gtup rfl fs.g_JOINS fs.t_JOINS) q_anil)))))))) (q_one (q_rs0 fs.x_InvalidBook c_InvalidBook (hr.mono (by decide)) rfl fs.g_InvalidBook rfl tk)) q_nil) (q_cons (q_fset fs.c_Book fs.n_Book_names (q_var (pv 0)) (q_var (pv 1))) (q_cons (q_fset fs.c_Book fs.n_Book_given (q_var (pv 0)) (q_dc rfl hN (q_ita (q_var (pv 1))) (own := [("role", 6)]) (blk_ok rfl) (by decide) (fun _ _ _ _ _ => (q_gn (i := 6) hN rfl (.inl rfl))) (fun _ _ _ _ _ => (pts_one (q_tcmp (oq_in2 hu) (q_var (pv 6)) (q_var (pv 2))))) (fun _ _ _ _ _ => (q_var (pv 6))) (fun _ _ _ _ _ => (q_ix2 hu (q_var (pv 2)) (q_var (pv 6)))))) (q_cons (q_fset fs.c_Book fs.n_Book_lines (q_var (pv 0)) (q_var (pv 3))) (q_cons (q_fset fs.c_Book fs.n_Book_close_word (q_var (pv 0)) (q_var (pv 4))) (q_one (q_fset fs.c_Book fs.n_Book_join_word (q_var (pv 0)) (q_var (pv 5))))))))))))

abbrev s_Book__len : Stmt := mem (top 29) 2
theorem sc_Book__len : FnScope ["self"] ["self"] (defScope s_Book__len) := ⟨rfl, rfl, rfl, by decide +kernel, rfl, by decide +kernel, by decide +kernel⟩
def g_Book__len : Iv.Env → SM := (sRet (eA lenR2 (aCons (e1 (fldR "Book" "lines") (eV 0)) aNil)))
def f_Book__len : List Iv.R → M Iv.R := runB 1 g_Book__len
theorem k_Book__len (fs : Fs K mg) (Fd : FunD K "__len__" "Book.__len__" (defArgs s_Book__len) (defBody s_Book__len) (defScope s_Book__len) [] [] f fd) : FnQ P w K mg base f 1 1 f_Book__len :=
  FnQ.mk' Fd sc_Book__len rfl (Fd.bindsN fun _ _ _ _ _ _ us hl => match us, hl with | [_], _ => rfl) rfl fun cdv A outer s H E hr => by
    have hN := (sc_Book__len).nd
    have hu := room65 hr
    have hu4 := room64 hr
    have hu1 := room1 hr
    have tk := takes_of (E := E) (X := cxOf (L2.CX P w) P w K mg base ["self"] "Book.__len__" (defScope s_Book__len) f cdv A outer s H E) rfl rfl rfl rfl
    exact (q_one (q_ret (q_callB cq_len2 rfl fs.f_len rfl (q_acons (q_fld fs.c_Book fs.n_Book_lines (q_var (pv 0))) q_anil))))

abbrev s_Book__rules : Stmt := mem (top 29) 5
theorem sc_Book__rules : FnScope ["self"] ["self"] (defScope s_Book__rules) := ⟨rfl, rfl, rfl, by decide +kernel, rfl, by decide +kernel, by decide +kernel⟩
def g_Book__rules : Iv.Env → SM := (sRet (e1 (fldR "Book" "lines") (eV 0)))
def f_Book__rules : List Iv.R → M Iv.R := runB 1 g_Book__rules
theorem k_Book__rules (fs : Fs K mg) (Fd : FunD K "rules" "Book.rules" (defArgs s_Book__rules) (defBody s_Book__rules) (defScope s_Book__rules) [] [] f fd) : FnQ P w K mg base f 1 1 f_Book__rules :=
  FnQ.mk' Fd sc_Book__rules rfl (Fd.bindsN fun _ _ _ _ _ _ us hl => match us, hl with | [_], _ => rfl) rfl fun cdv A outer s H E hr => by
    have hN := (sc_Book__rules).nd
    have hu := room65 hr
    have hu4 := room64 hr
    have hu1 := room1 hr
    have tk := takes_of (E := E) (X := cxOf (L2.CX P w) P w K mg base ["self"] "Book.rules" (defScope s_Book__rules) f cdv A outer s H E) rfl rfl rfl rfl
    exact (q_one (q_ret (q_fld fs.c_Book fs.n_Book_lines (q_var (pv 0)))))

abbrev s_Book__with_rules : Stmt := mem (top 29) 9
theorem sc_Book__with_rules : FnScope ["self", "rules"] ["self", "rules"] (defScope s_Book__with_rules) := ⟨rfl, rfl, rfl, by decide +kernel, rfl, by decide +kernel, by decide +kernel⟩
def g_Book__with_rules : Iv.Env → SM := (sRet (eMk 6 (mkP "Book" f_Book__init) (aCons (e1 (fldR "Book" "names") (eV 0)) (aCons (e1 (fldR "Book" "given") (eV 0)) (aCons (eV 1) (aCons (e1 (fldR "Book" "close_word") (eV 0)) (aCons (e1 (fldR "Book" "join_word") (eV 0)) aNil)))))))
def f_Book__with_rules : List Iv.R → M Iv.R := runB 2 g_Book__with_rules
theorem k_Book__with_rules (fs : Fs K mg) (c_Book__init : FnQ P w K mg base (He.ma K (He.ga K "Book") "__init__") 5 6 f_Book__init) (Fd : FunD K "with_rules" "Book.with_rules" (defArgs s_Book__with_rules) (defBody s_Book__with_rules) (defScope s_Book__with_rules) [] [] f fd) : FnQ P w K mg base f 7 2 f_Book__with_rules :=
  FnQ.mk' Fd sc_Book__with_rules rfl (Fd.bindsN fun _ _ _ _ _ _ us hl => match us, hl with | [_, _], _ => rfl) rfl fun cdv A outer s H E hr => by
    have hN := (sc_Book__with_rules).nd
    have hu := room65 hr
    have hu4 := room64 hr
    have hu1 := room1 hr
    have tk := takes_of (E := E) (X := cxOf (L2.CX P w) P w K mg base ["self", "rules"] "Book.with_rules" (defScope s_Book__with_rules) f cdv A outer s H E) rfl rfl rfl rfl
    exact (q_one (q_ret (q_mkP rfl c_Book__init fs.m_Book (hr.mono (by decide)) rfl fs.g_Book tk (q_acons (q_fld fs.c_Book fs.n_Book_names (q_var (pv 0))) (q_acons (q_fld fs.c_Book fs.n_Book_given (q_var (pv 0))) (q_acons (q_var (pv 1)) (q_acons (q_fld fs.c_Book fs.n_Book_close_word (q_var (pv 0))) (q_acons (q_fld fs.c_Book fs.n_Book_join_word (q_var (pv 0))) q_anil))))))))

abbrev s_mends_of : Stmt := top 31
theorem sc_mends_of : FnScope ["book", "found", "index", "word", "tests", "answer", "other"] ["book"] (defScope s_mends_of) := ⟨rfl, rfl, rfl, by decide +kernel, rfl, by decide +kernel, by decide +kernel⟩
def g_mends_of : Iv.Env → SM := (sSeq (sSet 1 (eLcC [3] (itA (eC (.tup ((["closed", "in", "late", "low", "other", "poor", "spent", "taken"] : List Str).map W.str)))) (gN 3) tYes (eTup (aCons (eC (.str "bar")) (aCons (eV 3) aNil))))) (sSeq (sFor (itE (e1 (fldR "Book" "lines") (eV 0))) (gTp 2 (gsCons (gN 2) (gsCons (gTp 2 (gsCons (gN 4) (gsCons (gN 5) gsNil))) gsNil))) (sExpr (eM "list" exR (eV 1) (aCons (eLc [6] (itA (eC (.tup ((["refuse", "full", "least"] : List Str).map W.str)))) (gN 6) (tV (e2 neR (eV 6) (eV 5))) (eTup (aCons (eC (.str "turn")) (aCons (eV 2) (aCons (eV 6) aNil))))) aNil)))) (sRet (eV 1))))
def f_mends_of : List Iv.R → M Iv.R := runB 7 g_mends_of
theorem k_mends_of (fs : Fs K mg) (Fd : FunD K "mends_of" "mends_of" (defArgs s_mends_of) (defBody s_mends_of) (defScope s_mends_of) [] [] f fd) : FnQ P w K mg base f 1 1 f_mends_of :=
  FnQ.mk' Fd sc_mends_of rfl (Fd.bindsN fun _ _ _ _ _ _ us hl => match us, hl with | [_], _ => rfl) rfl fun cdv A outer s H E hr => by
    have hN := (sc_mends_of).nd
    have hu := room65 hr
    have hu4 := room64 hr
    have hu1 := room1 hr
    have tk := takes_of (E := E) (X := cxOf (L2.CX P w) P w K mg base ["book", "found", "index", "word", "tests", "answer", "other"] "mends_of" (defScope s_mends_of) f cdv A outer s H E) rfl rfl rfl rfl
    exact (q_cons (q_setLcC (i := 1) rfl hN rfl rfl rfl (q_ita (q_gtup rfl fs.g_WORDS fs.t_WORDS)) (own := [("word", 3)]) (blk_ok rfl) (by decide) (fun _ _ _ _ _ => (q_gn (i := 3) hN rfl (.inl rfl))) (fun _ _ _ _ _ => pts_yes) (fun _ _ _ _ _ => (q_tup (q_acons q_str (q_acons (q_var (pv 3)) q_anil))))) (q_cons (q_for (passes_of rfl) rfl (q_ite rfl fs.f_enumerate (q_fld fs.c_Book fs.n_Book_lines (q_var (pv 0)))) (q_gtp rfl (q_gscons (q_gn (i := 2) hN rfl (.inr rfl)) (q_gscons (q_gtp rfl (q_gscons (q_gn (i := 4) hN rfl (.inl rfl)) (q_gscons (q_gn (i := 5) hN rfl (.inr rfl)) q_gsnil))) q_gsnil))) (q_one (q_expr (q_bm (pe_mG ty_b F.plainAttrs_list F.slot_list_extend F.type_list_extend mq_extend (q_var (pv 1)) (q_acons (q_lc rfl hN (q_ita (q_gtup rfl fs.g_ANSWERS fs.t_ANSWERS)) (own := [("other", 6)]) (blk_ok rfl) (by decide) (fun _ _ _ _ _ => (q_gn (i := 6) hN rfl (.inl rfl))) (fun _ _ _ _ _ => (pts_one (q_tcmp (oq_ne hu4) (q_var (pv 6)) (q_var (pv 5))))) (fun _ _ _ _ _ => (q_tup (q_acons q_str (q_acons (q_var (pv 2)) (q_acons (q_var (pv 6)) q_anil)))))) q_anil)))))) (q_one (q_ret (q_var (pv 1))))))

abbrev s_is_mend : Stmt := top 32
theorem sc_is_mend : FnScope ["thing", "known"] ["thing", "known"] (defScope s_is_mend) := ⟨rfl, rfl, rfl, by decide +kernel, rfl, by decide +kernel, by decide +kernel⟩
def g_is_mend : Iv.Env → SM := (sSeq (sIf (tOrM (tNotM (tV (eA isiR (aCons (eV 0) (aCons (eC (.ty "tuple")) aNil))))) (tOrM (tV (e2 ltR (eA lenR2 (aCons (eV 0) aNil)) (eC (.int 2)))) (tNotM (tV (eCallP 2 f_is_one_of (aCons (e2 ixR2 (eV 0) (eC (.int 0))) (aCons (eTup (aCons (eC (.str "bar")) (aCons (eC (.str "turn")) aNil))) aNil))))))) (sRet (eC (.bl false))) sNil) (sSeq (sIf (tAndM (tV (e2 eqR (e2 ixR2 (eV 0) (eC (.int 0))) (eC (.str "turn")))) (tNotM (tV (eCallP 1 f_is_integer (aCons (e2 ixR2 (eV 0) (eC (.int 1))) aNil))))) (sRet (eC (.bl false))) sNil) (sRet (e2 inR2 (eV 0) (eV 1)))))
def f_is_mend : List Iv.R → M Iv.R := runB 2 g_is_mend
theorem k_is_mend (fs : Fs K mg) (c_is_integer : FnQ P w K mg base (He.ga K "is_integer") 1 1 f_is_integer) (c_is_one_of : FnQ P w K mg base (He.ga K "is_one_of") 1 2 f_is_one_of) (Fd : FunD K "is_mend" "is_mend" (defArgs s_is_mend) (defBody s_is_mend) (defScope s_is_mend) [] [] f fd) : FnQ P w K mg base f 2 2 f_is_mend :=
  FnQ.mk' Fd sc_is_mend rfl (Fd.bindsN fun _ _ _ _ _ _ us hl => match us, hl with | [_, _], _ => rfl) rfl fun cdv A outer s H E hr => by
    have hN := (sc_is_mend).nd
    have hu := room65 hr
    have hu4 := room64 hr
    have hu1 := room1 hr
    have tk := takes_of (E := E) (X := cxOf (L2.CX P w) P w K mg base ["thing", "known"] "is_mend" (defScope s_is_mend) f cdv A outer s H E) rfl rfl rfl rfl
    exact (q_cons (q_sif (q_w (q_or (q_tnot (q_test (q_callB cq_isi rfl fs.f_isinstance rfl (q_acons (q_var (pv 0)) (q_acons (q_ty rfl fs.f_tuple rfl) q_anil))))) (q_or (q_tcmp oq_lt (q_callB cq_len2 rfl fs.f_len rfl (q_acons (q_var (pv 0)) q_anil)) q_int) (q_or1 (q_tnot (q_test (q_callP c_is_one_of (hr.mono (by decide)) rfl fs.g_is_one_of tk (q_acons (q_ix2 hu (q_var (pv 0)) q_int) (q_acons (q_tup (q_acons q_str (q_acons q_str q_anil))) q_anil))))))))) (q_one (q_ret q_bl)) q_nil) (q_cons (q_sif (q_w (q_and (q_tcmp (oq_eq hu4) (q_ix2 hu (q_var (pv 0)) q_int) q_str) (q_and1 (q_tnot (q_test (q_callP c_is_integer (hr.mono (by decide)) rfl fs.g_is_integer tk (q_acons (q_ix2 hu (q_var (pv 0)) q_int) q_anil))))))) (q_one (q_ret q_bl)) q_nil) (q_one (q_ret (q_cmp (oq_in2 hu) (q_var (pv 0)) (q_var (pv 1)))))))

abbrev s_made : Stmt := top 33
theorem sc_made : FnScope ["book", "mends", "bars", "turns", "rules", "word", "mend", "index", "tests", "answer"] ["book", "mends"] (defScope s_made) := ⟨rfl, rfl, rfl, by decide +kernel, rfl, by decide +kernel, by decide +kernel⟩
def g_made : Iv.Env → SM := (sSeq (sSet 2 (eLc [5] (itA (eC (.tup ((["closed", "in", "late", "low", "other", "poor", "spent", "taken"] : List Str).map W.str)))) (gN 5) (tV (e2 inR2 (eTup (aCons (eC (.str "bar")) (aCons (eV 5) aNil))) (eV 1))) (eTup (aCons (eTup (aCons (eTup (aCons (eV 5) (aCons (eC (.bl true)) aNil))) aNil)) (aCons (eC (.str "refuse")) aNil))))) (sSeq (sSet 3 (eDc [6] (itA (eV 1)) (gN 6) (tV (e2 eqR (e2 ixR2 (eV 6) (eC (.int 0))) (eC (.str "turn")))) (e2 ixR2 (eV 6) (eC (.int 1))) (e2 ixR2 (eV 6) (eC (.int 2))))) (sSeq (sSet 4 (eLc [7, 8, 9] (itE (e1 (fldR "Book" "lines") (eV 0))) (gTp 2 (gsCons (gN 7) (gsCons (gTp 2 (gsCons (gN 8) (gsCons (gN 9) gsNil))) gsNil))) tYes (eTup (aCons (eV 8) (aCons (eM "dict" getR (eV 3) (aCons (eV 7) (aCons (eV 9) aNil))) aNil))))) (sRet (eMethP "Book" "with_rules" 2 f_Book__with_rules (eV 0) (aCons (eA tupleR (aCons (e2 addR (eV 2) (eV 4)) aNil)) aNil))))))
def f_made : List Iv.R → M Iv.R := runB 10 g_made
theorem k_made (fs : Fs K mg) (c_Book__with_rules : FnQ P w K mg base (He.ma K (He.ga K "Book") "with_rules") 7 2 f_Book__with_rules) (Fd : FunD K "made" "made" (defArgs s_made) (defBody s_made) (defScope s_made) [] [] f fd) : FnQ P w K mg base f 8 2 f_made :=
  FnQ.mk' Fd sc_made rfl (Fd.bindsN fun _ _ _ _ _ _ us hl => match us, hl with | [_, _], _ => rfl) rfl fun cdv A outer s H E hr => by
    have hN := (sc_made).nd
    have hu := room65 hr
    have hu4 := room64 hr
    have hu1 := room1 hr
    have tk := takes_of (E := E) (X := cxOf (L2.CX P w) P w K mg base ["book", "mends", "bars", "turns", "rules", "word", "mend", "index", "tests", "answer"] "made" (defScope s_made) f cdv A outer s H E) rfl rfl rfl rfl
    exact (q_cons (q_setLc (i := 2) rfl hN rfl rfl rfl (q_ita (q_gtup rfl fs.g_WORDS fs.t_WORDS)) (own := [("word", 5)]) (blk_ok rfl) (by decide) (fun _ _ _ _ _ => (q_gn (i := 5) hN rfl (.inl rfl))) (fun _ _ _ _ _ => (pts_one (q_tcmp (oq_in2 hu) (q_tup (q_acons q_str (q_acons (q_var (pv 5)) q_anil))) (q_var (pv 1))))) (fun _ _ _ _ _ => (q_tup (q_acons (q_tup (q_acons (q_tup (q_acons (q_var (pv 5)) (q_acons q_bl q_anil))) q_anil)) (q_acons q_str q_anil))))) (q_cons (q_set (i := 3) hN rfl (.inr rfl) (q_dc rfl hN (q_ita (q_var (pv 1))) (own := [("mend", 6)]) (blk_ok rfl) (by decide) (fun _ _ _ _ _ => (q_gn (i := 6) hN rfl (.inl rfl))) (fun _ _ _ _ _ => (pts_one (q_tcmp (oq_eq hu4) (q_ix2 hu (q_var (pv 6)) q_int) q_str))) (fun _ _ _ _ _ => (q_ix2 hu (q_var (pv 6)) q_int)) (fun _ _ _ _ _ => (q_ix2 hu (q_var (pv 6)) q_int)))) (q_cons (q_setLc (i := 4) rfl hN rfl rfl rfl (q_ite rfl fs.f_enumerate (q_fld fs.c_Book fs.n_Book_lines (q_var (pv 0)))) (own := [("index", 7), ("tests", 8), ("answer", 9)]) (blk_ok rfl) (by decide) (fun _ _ _ _ _ => (q_gtp rfl (q_gscons (q_gn (i := 7) hN rfl (.inl rfl)) (q_gscons (q_gtp rfl (q_gscons (q_gn (i := 8) hN rfl (.inl rfl)) (q_gscons (q_gn (i := 9) hN rfl (.inl rfl)) q_gsnil))) q_gsnil)))) (fun _ _ _ _ _ => pts_yes) (fun _ _ _ _ _ => (q_tup (q_acons (q_var (pv 8)) (q_acons (q_bm (pe_mG ty_b F.plainAttrs_dict F.slot_dict_get F.type_dict_get (mq_get hu1) (q_var (pv 3)) (q_acons (q_var (pv 7)) (q_acons (q_var (pv 9)) q_anil)))) q_anil))))) (q_one (q_ret (q_methP c_Book__with_rules (hr.mono (by decide)) fs.c_Book fs.mt_Book_with_rules tk (q_var (pv 0)) (q_acons (q_callTy cq_tuple rfl fs.f_tuple rfl (q_acons (q_op oq_add (q_var (pv 2)) (q_var (pv 4))) q_anil)) q_anil)))))))

abbrev s_mended : Stmt := top 34
theorem sc_mended : FnScope ["book", "mends", "known", "turns", "index", "mend"] ["book", "mends"] (defScope s_mended) := ⟨rfl, rfl, rfl, by decide +kernel, rfl, by decide +kernel, by decide +kernel⟩
def g_mended : Iv.Env → SM := (sSeq (sSet 2 (eCallP 1 f_mends_of (aCons (eV 0) aNil))) (sSeq (sSet 3 eDicC) (sSeq (sFor (itE (eV 1)) (gTp 2 (gsCons (gN 4) (gsCons (gN 5) gsNil))) (sSeq (sIf (tOrM (tNotM (tV (eCallP 2 f_is_mend (aCons (eV 5) (aCons (eV 2) aNil))))) (tAndM (tV (e2 eqR (e2 ixR2 (eV 5) (eC (.int 0))) (eC (.str "turn")))) (tV (e2 neR (eM "dict" getR (eV 3) (aCons (e2 ixR2 (eV 5) (eC (.int 1))) (aCons (e2 ixR2 (eV 5) (eC (.int 2))) aNil))) (e2 ixR2 (eV 5) (eC (.int 2))))))) (sRaise "UnknownMend" ["index"] (aCons (eV 4) aNil)) sNil) (sIf (tV (e2 eqR (e2 ixR2 (eV 5) (eC (.int 0))) (eC (.str "turn")))) (sAsg (e2 ixR2 (eV 5) (eC (.int 2))) (mSub (eV 3) (e2 ixR2 (eV 5) (eC (.int 1))))) sNil))) (sRet (eCallP 2 f_made (aCons (eV 0) (aCons (eA listR (aCons (eV 1) aNil)) aNil)))))))
def f_mended : List Iv.R → M Iv.R := runB 6 g_mended
theorem k_mended (fs : Fs K mg) (c_UnknownMend : XQ1 P w K mg base "UnknownMend" "index") (c_is_mend : FnQ P w K mg base (He.ga K "is_mend") 2 2 f_is_mend) (c_made : FnQ P w K mg base (He.ga K "made") 8 2 f_made) (c_mends_of : FnQ P w K mg base (He.ga K "mends_of") 1 1 f_mends_of) (Fd : FunD K "mended" "mended" (defArgs s_mended) (defBody s_mended) (defScope s_mended) [] [] f fd) : FnQ P w K mg base f 9 2 f_mended :=
  FnQ.mk' Fd sc_mended rfl (Fd.bindsN fun _ _ _ _ _ _ us hl => match us, hl with | [_, _], _ => rfl) rfl fun cdv A outer s H E hr => by
    have hN := (sc_mended).nd
    have hu := room65 hr
    have hu4 := room64 hr
    have hu1 := room1 hr
    have tk := takes_of (E := E) (X := cxOf (L2.CX P w) P w K mg base ["book", "mends", "known", "turns", "index", "mend"] "mended" (defScope s_mended) f cdv A outer s H E) rfl rfl rfl rfl
    exact (q_cons (q_set (i := 2) hN rfl (.inl rfl) (q_callP c_mends_of (hr.mono (by decide)) rfl fs.g_mends_of tk (q_acons (q_var (pv 0)) q_anil))) (q_cons (q_set (i := 3) hN rfl (.inl rfl) q_dicC) (q_cons (q_for (passes_of rfl) rfl (q_ite rfl fs.f_enumerate (q_var (pv 1))) (q_gtp rfl (q_gscons (q_gn (i := 4) hN rfl (.inl rfl)) (q_gscons (q_gn (i := 5) hN rfl (.inl rfl)) q_gsnil))) (q_cons (q_sif (q_w (q_or (q_tnot (q_test (q_callP c_is_mend (hr.mono (by decide)) rfl fs.g_is_mend tk (q_acons (q_var (pv 5)) (q_acons (q_var (pv 2)) q_anil))))) (q_or1 (q_w (q_and (q_tcmp (oq_eq hu4) (q_ix2 hu (q_var (pv 5)) q_int) q_str) (q_and1 (q_tcmp (oq_ne hu4) (q_bm (pe_mG ty_b F.plainAttrs_dict F.slot_dict_get F.type_dict_get (mq_get hu1) (q_var (pv 3)) (q_acons (q_ix2 hu (q_var (pv 5)) q_int) (q_acons (q_ix2 hu (q_var (pv 5)) q_int) q_anil)))) (q_ix2 hu (q_var (pv 5)) q_int)))))))) (q_one (q_rs1 fs.x_UnknownMend c_UnknownMend (hr.mono (by decide)) rfl fs.g_UnknownMend rfl tk (q_acons (q_var (pv 4)) q_anil))) q_nil) (q_one (q_sif (q_tcmp (oq_eq hu4) (q_ix2 hu (q_var (pv 5)) q_int) q_str) (q_one (q_asg (q_ix2 hu (q_var (pv 5)) q_int) (q_msub hu1 (q_var (pv 3)) (q_ix2 hu (q_var (pv 5)) q_int)))) q_nil)))) (q_one (q_ret (q_callP c_made (hr.mono (by decide)) rfl fs.g_made tk (q_acons (q_var (pv 0)) (q_acons (q_callTy (cq_list rfl) rfl fs.f_list rfl (q_acons (q_var (pv 1)) q_anil)) q_anil))))))))

abbrev s__law_taken : Stmt := top 36
theorem sc__law_taken : FnScope ["_law_row", "_law_many", "_law_cell", "_law_found"] ["_law_row", "_law_many"] (defScope s__law_taken) := ⟨rfl, rfl, rfl, by decide +kernel, rfl, by decide +kernel, by decide +kernel⟩
def g__law_taken : Iv.Env → SM := (sSeq (sIf (tV (e2 gtR (e2 ixR2 (eV 0) (eC (.int 3))) (eC (.int 0)))) (sSeq (sSet 3 (e2 modR (eA intR (aCons (e2 ixR2 (eV 0) (eC (.int 3))) aNil)) (eV 1))) (sSeq (sAsg (e2 fdivR (e2 ixR2 (eV 0) (eC (.int 3))) (eV 1)) (mSub (eV 0) (eC (.int 3)))) (sRet (eV 3)))) sNil) (sSeq (sAsg (e2 addR (e2 ixR2 (eV 0) (eC (.int 1))) (eC (.int 1))) (mSub (eV 0) (eC (.int 1)))) (sSeq (sIf (tV (e2 gtR (e2 ixR2 (eV 0) (eC (.int 1))) (eA lenR2 (aCons (e2 ixR2 (eV 0) (eC (.int 0))) aNil)))) (sSeq (sAsg (e2 modR (eA intR (aCons (e2 addR (e2 mulR2 (e2 ixR2 (eV 0) (eC (.int 2))) (eC (.int 48271))) (eC (.int 11))) aNil)) (eC (.int 2147483647))) (mSub (eV 0) (eC (.int 2)))) (sRet (e2 modR (eA intR (aCons (e2 fdivR (e2 ixR2 (eV 0) (eC (.int 2))) (eC (.int 7))) aNil)) (eV 1)))) sNil) (sSeq (sSet 2 (e2 ixR2 (e2 ixR2 (eV 0) (eC (.int 0))) (e2 subR (e2 ixR2 (eV 0) (eC (.int 1))) (eC (.int 1))))) (sSeq (sAsg (e2 modR (eA intR (aCons (e2 addR (e2 addR (e2 mulR2 (e2 ixR2 (eV 0) (eC (.int 2))) (eC (.int 48271))) (eV 2)) (eC (.int 11))) aNil)) (eC (.int 2147483647))) (mSub (eV 0) (eC (.int 2)))) (sSeq (sIf (tV (e2 geR (eV 2) (e2 powR (eC (.int 10)) (eC (.int 18))))) (sAsg (e2 fdivR (eV 2) (eV 1)) (mSub (eV 0) (eC (.int 3)))) sNil) (sRet (e2 modR (eA intR (aCons (eV 2) aNil)) (eV 1)))))))))
def f__law_taken : List Iv.R → M Iv.R := runB 4 g__law_taken
theorem k__law_taken (fs : Fs K mg) (Fd : FunD K "_law_taken" "_law_taken" (defArgs s__law_taken) (defBody s__law_taken) (defScope s__law_taken) [] [] f fd) : FnQ P w K mg base f 1 2 f__law_taken :=
  FnQ.mk' Fd sc__law_taken rfl (Fd.bindsN fun _ _ _ _ _ _ us hl => match us, hl with | [_, _], _ => rfl) rfl fun cdv A outer s H E hr => by
    have hN := (sc__law_taken).nd
    have hu := room65 hr
    have hu4 := room64 hr
    have hu1 := room1 hr
    have tk := takes_of (E := E) (X := cxOf (L2.CX P w) P w K mg base ["_law_row", "_law_many", "_law_cell", "_law_found"] "_law_taken" (defScope s__law_taken) f cdv A outer s H E) rfl rfl rfl rfl
    exact (q_cons (q_sif (q_tcmp oq_gt (q_ix2 hu (q_var (pv 0)) q_int) q_int) (q_cons (q_set (i := 3) hN rfl (.inl rfl) (q_op oq_mod (q_callTy cq_int rfl fs.f_int rfl (q_acons (q_ix2 hu (q_var (pv 0)) q_int) q_anil)) (q_var (pv 1)))) (q_cons (q_asg (q_op oq_fdiv (q_ix2 hu (q_var (pv 0)) q_int) (q_var (pv 1))) (q_msub hu1 (q_var (pv 0)) q_int)) (q_one (q_ret (q_var (pv 3)))))) q_nil) (q_cons (q_asg (q_op oq_add (q_ix2 hu (q_var (pv 0)) q_int) q_int) (q_msub hu1 (q_var (pv 0)) q_int)) (q_cons (q_sif (q_tcmp oq_gt (q_ix2 hu (q_var (pv 0)) q_int) (q_callB cq_len2 rfl fs.f_len rfl (q_acons (q_ix2 hu (q_var (pv 0)) q_int) q_anil))) (q_cons (q_asg (q_op oq_mod (q_callTy cq_int rfl fs.f_int rfl (q_acons (q_op oq_add (q_op oq_mul2 (q_ix2 hu (q_var (pv 0)) q_int) q_int) q_int) q_anil)) q_int) (q_msub hu1 (q_var (pv 0)) q_int)) (q_one (q_ret (q_op oq_mod (q_callTy cq_int rfl fs.f_int rfl (q_acons (q_op oq_fdiv (q_ix2 hu (q_var (pv 0)) q_int) q_int) q_anil)) (q_var (pv 1)))))) q_nil) (q_cons (q_set (i := 2) hN rfl (.inl rfl) (q_ix2 hu (q_ix2 hu (q_var (pv 0)) q_int) (q_op oq_sub (q_ix2 hu (q_var (pv 0)) q_int) q_int))) (q_cons (q_asg (q_op oq_mod (q_callTy cq_int rfl fs.f_int rfl (q_acons (q_op oq_add (q_op oq_add (q_op oq_mul2 (q_ix2 hu (q_var (pv 0)) q_int) q_int) (q_var (pv 2))) q_int) q_anil)) q_int) (q_msub hu1 (q_var (pv 0)) q_int)) (q_cons (q_sif (q_tcmp oq_ge (q_var (pv 2)) (q_op oq_pow q_int q_int)) (q_one (q_asg (q_op oq_fdiv (q_var (pv 2)) (q_var (pv 1))) (q_msub hu1 (q_var (pv 0)) q_int))) q_nil) (q_one (q_ret (q_op oq_mod (q_callTy cq_int rfl fs.f_int rfl (q_acons (q_var (pv 2)) q_anil)) (q_var (pv 1)))))))))))

abbrev s__law_kind : Stmt := top 37
theorem sc__law_kind : FnScope ["_law_row", "_law_roles", "_law_gives"] ["_law_row", "_law_roles"] (defScope s__law_kind) := ⟨rfl, rfl, rfl, by decide +kernel, rfl, by decide +kernel, by decide +kernel⟩
def g__law_kind : Iv.Env → SM := (sSeq (sSet 2 (e2 ixR2 (eV 1) (eCallP 2 f__law_taken (aCons (eV 0) (aCons (eA lenR2 (aCons (eV 1) aNil)) aNil))))) (sRet (eTup (aCons (eV 2) (aCons (eCallP 2 f__law_taken (aCons (eV 0) (aCons (eC (.int 3)) aNil))) (aCons (eCallP 2 f__law_taken (aCons (eV 0) (aCons (eC (.int 3)) aNil))) (aCons (e2 eqR (eCallP 2 f__law_taken (aCons (eV 0) (aCons (eC (.int 2)) aNil))) (eC (.int 0))) aNil)))))))
def f__law_kind : List Iv.R → M Iv.R := runB 3 g__law_kind
theorem k__law_kind (fs : Fs K mg) (c__law_taken : FnQ P w K mg base (He.ga K "_law_taken") 1 2 f__law_taken) (Fd : FunD K "_law_kind" "_law_kind" (defArgs s__law_kind) (defBody s__law_kind) (defScope s__law_kind) [] [] f fd) : FnQ P w K mg base f 2 2 f__law_kind :=
  FnQ.mk' Fd sc__law_kind rfl (Fd.bindsN fun _ _ _ _ _ _ us hl => match us, hl with | [_, _], _ => rfl) rfl fun cdv A outer s H E hr => by
    have hN := (sc__law_kind).nd
    have hu := room65 hr
    have hu4 := room64 hr
    have hu1 := room1 hr
    have tk := takes_of (E := E) (X := cxOf (L2.CX P w) P w K mg base ["_law_row", "_law_roles", "_law_gives"] "_law_kind" (defScope s__law_kind) f cdv A outer s H E) rfl rfl rfl rfl
    exact (q_cons (q_set (i := 2) hN rfl (.inl rfl) (q_ix2 hu (q_var (pv 1)) (q_callP c__law_taken (hr.mono (by decide)) rfl fs.g__law_taken tk (q_acons (q_var (pv 0)) (q_acons (q_callB cq_len2 rfl fs.f_len rfl (q_acons (q_var (pv 1)) q_anil)) q_anil))))) (q_one (q_ret (q_tup (q_acons (q_var (pv 2)) (q_acons (q_callP c__law_taken (hr.mono (by decide)) rfl fs.g__law_taken tk (q_acons (q_var (pv 0)) (q_acons q_int q_anil))) (q_acons (q_callP c__law_taken (hr.mono (by decide)) rfl fs.g__law_taken tk (q_acons (q_var (pv 0)) (q_acons q_int q_anil))) (q_acons (q_cmp (oq_eq hu4) (q_callP c__law_taken (hr.mono (by decide)) rfl fs.g__law_taken tk (q_acons (q_var (pv 0)) (q_acons q_int q_anil))) q_int) q_anil))))))))

abbrev s__law_rule : Stmt := top 38
theorem sc__law_rule : FnScope ["_law_row", "_law_words", "_law_word", "_law_tests", "_law_many"] ["_law_row"] (defScope s__law_rule) := ⟨rfl, rfl, rfl, by decide +kernel, rfl, by decide +kernel, by decide +kernel⟩
def g__law_rule : Iv.Env → SM := (sSeq (sSet 1 (eLst (aCons (eC (.str "closed")) (aCons (eC (.str "in")) (aCons (eC (.str "late")) (aCons (eC (.str "low")) (aCons (eC (.str "other")) (aCons (eC (.str "poor")) (aCons (eC (.str "spent")) (aCons (eC (.str "taken")) aNil)))))))))) (sSeq (sPar 3 4 (aCons (eLstC aNil) (aCons (e2 ixR2 (eLst (aCons (eC (.int 1)) (aCons (eC (.int 1)) (aCons (eC (.int 1)) (aCons (eC (.int 2)) (aCons (eC (.int 2)) (aCons (eC (.int 0)) aNil))))))) (eCallP 2 f__law_taken (aCons (eV 0) (aCons (eC (.int 6)) aNil)))) aNil))) (sSeq (sFor (itA (eV 1)) (gN 2) (sIf (tAndM (tV (e2 ltR (eA lenR2 (aCons (eV 3) aNil)) (eV 4))) (tV (e2 eqR (eCallP 2 f__law_taken (aCons (eV 0) (aCons (eC (.int 4)) aNil))) (eC (.int 0))))) (sExpr (eM "list" apR (eV 3) (aCons (eTup (aCons (eV 2) (aCons (e2 gtR (eCallP 2 f__law_taken (aCons (eV 0) (aCons (eC (.int 3)) aNil))) (eC (.int 0))) aNil))) aNil))) sNil)) (sRet (eTup (aCons (eA tupleR (aCons (eV 3) aNil)) (aCons (e2 ixR2 (eLst (aCons (eC (.str "refuse")) (aCons (eC (.str "refuse")) (aCons (eC (.str "full")) (aCons (eC (.str "least")) aNil))))) (eCallP 2 f__law_taken (aCons (eV 0) (aCons (eC (.int 4)) aNil)))) aNil)))))))
def f__law_rule : List Iv.R → M Iv.R := runB 5 g__law_rule
theorem k__law_rule (fs : Fs K mg) (c__law_taken : FnQ P w K mg base (He.ga K "_law_taken") 1 2 f__law_taken) (Fd : FunD K "_law_rule" "_law_rule" (defArgs s__law_rule) (defBody s__law_rule) (defScope s__law_rule) [] [] f fd) : FnQ P w K mg base f 2 1 f__law_rule :=
  FnQ.mk' Fd sc__law_rule rfl (Fd.bindsN fun _ _ _ _ _ _ us hl => match us, hl with | [_], _ => rfl) rfl fun cdv A outer s H E hr => by
    have hN := (sc__law_rule).nd
    have hu := room65 hr
    have hu4 := room64 hr
    have hu1 := room1 hr
    have tk := takes_of (E := E) (X := cxOf (L2.CX P w) P w K mg base ["_law_row", "_law_words", "_law_word", "_law_tests", "_law_many"] "_law_rule" (defScope s__law_rule) f cdv A outer s H E) rfl rfl rfl rfl
    exact (q_cons (q_set (i := 1) hN rfl (.inl rfl) (q_lst (q_acons q_str (q_acons q_str (q_acons q_str (q_acons q_str (q_acons q_str (q_acons q_str (q_acons q_str (q_acons q_str q_anil)))))))))) (q_cons (q_par (i := 3) (j := 4) rfl hN rfl rfl (by decide) rfl rfl (q_acons (q_lstC q_anil) (q_acons (q_ix2 hu (q_lst (q_acons q_int (q_acons q_int (q_acons q_int (q_acons q_int (q_acons q_int (q_acons q_int q_anil))))))) (q_callP c__law_taken (hr.mono (by decide)) rfl fs.g__law_taken tk (q_acons (q_var (pv 0)) (q_acons q_int q_anil)))) q_anil))) (q_cons (q_for (passes_of rfl) rfl (q_ita (q_var (pv 1))) (q_gn (i := 2) hN rfl (.inl rfl)) (q_one (q_sif (q_w (q_and (q_tcmp oq_lt (q_callB cq_len2 rfl fs.f_len rfl (q_acons (q_var (pv 3)) q_anil)) (q_var (pv 4))) (q_and1 (q_tcmp (oq_eq hu4) (q_callP c__law_taken (hr.mono (by decide)) rfl fs.g__law_taken tk (q_acons (q_var (pv 0)) (q_acons q_int q_anil))) q_int)))) (q_one (q_expr (q_bm (pe_mG ty_b F.plainAttrs_list F.slot_list_append F.type_list_append mq_append (q_var (pv 3)) (q_acons (q_tup (q_acons (q_var (pv 2)) (q_acons (q_cmp oq_gt (q_callP c__law_taken (hr.mono (by decide)) rfl fs.g__law_taken tk (q_acons (q_var (pv 0)) (q_acons q_int q_anil))) q_int) q_anil))) q_anil))))) q_nil))) (q_one (q_ret (q_tup (q_acons (q_callTy cq_tuple rfl fs.f_tuple rfl (q_acons (q_var (pv 3)) q_anil)) (q_acons (q_ix2 hu (q_lst (q_acons q_str (q_acons q_str (q_acons q_str (q_acons q_str q_anil))))) (q_callP c__law_taken (hr.mono (by decide)) rfl fs.g__law_taken tk (q_acons (q_var (pv 0)) (q_acons q_int q_anil)))) q_anil))))))))

abbrev s__law_drawn : Stmt := top 39
theorem sc__law_drawn : FnScope ["_law_row", "_law_roles", "_law_d", "_law_role", "_law_many", "_law_some", "_law_k", "_law_one"] ["_law_row"] (defScope s__law_drawn) := ⟨rfl, rfl, rfl, by decide +kernel, rfl, by decide +kernel, by decide +kernel⟩
def g__law_drawn : Iv.Env → SM := (sSeq (sSet 1 (e2 ixR2 (eLst (aCons (eTup (aCons (eC (.str "a")) (aCons (eC (.str "bb")) (aCons (eC (.str "ccc")) aNil)))) (aCons (eTup (aCons (eC (.str "guest")) (aCons (eC (.str "keeper")) aNil))) (aCons (eTup (aCons (eC (.str "x")) aNil)) (aCons (eTup (aCons (eC (.str "in")) (aCons (eC (.str "not")) (aCons (eC (.str "late")) (aCons (eC (.str "full")) aNil))))) aNil))))) (eCallP 2 f__law_taken (aCons (eV 0) (aCons (eC (.int 4)) aNil))))) (sSeq (sSet 2 (eRcd ["roles", "grants"] (aCons (eV 1) (aCons eDicC aNil)))) (sSeq (sFor (itA (e1 revR (eV 1))) (gN 3) (sIf (tOrM (tV (e2 eqR (eV 3) (e2 ixR2 (eV 1) (e1 negR (eC (.int 1)))))) (tV (e2 eqR (eCallP 2 f__law_taken (aCons (eV 0) (aCons (eC (.int 3)) aNil))) (eC (.int 0))))) (sSeq (sSet 4 (e2 addR (eC (.int 1)) (eIf (tAndM (tV (e2 eqR (eV 3) (e2 ixR2 (eV 1) (e1 negR (eC (.int 1)))))) (tV (e2 ltR (eA lenR2 (aCons (eV 1) aNil)) (eC (.int 4))))) (eCallP 2 f__law_taken (aCons (eV 0) (aCons (eC (.int 2)) aNil))) (eC (.int 0))))) (sSeq (sSet 5 (eLc [6] (itR (eV 4)) (gN 6) tYes (eCallP 2 f__law_kind (aCons (eV 0) (aCons (eV 1) aNil))))) (sAsg (eA tupleR (aCons (e2 addR (eSl (eV 5) oNo (oSome (eC (.int 1)))) (eLc [7] (itA (eSl (eV 5) (oSome (eC (.int 1))) oNo)) (gN 7) (tV (e2 neR (eV 7) (e2 ixR2 (eV 5) (eC (.int 0))))) (eV 7))) aNil)) (mSub (e2 ixR2 (eV 2) (eC (.str "grants"))) (eV 3))))) sNil)) (sSeq (sAsg (eA tupleR (aCons (eLc [6] (itR (eCallP 2 f__law_taken (aCons (eV 0) (aCons (eC (.int 4)) aNil)))) (gN 6) tYes (eCallP 1 f__law_rule (aCons (eV 0) aNil))) aNil)) (mSub (eV 2) (eC (.str "rules")))) (sSeq (sAsg (eTup (aCons (e2 ixR2 (eLst (aCons (eC (.str "keep")) (aCons (eC (.str "take")) aNil))) (eCallP 2 f__law_taken (aCons (eV 0) (aCons (eC (.int 2)) aNil)))) (aCons (e2 ixR2 (eLst (aCons (eC (.str "greater")) (aCons (eC (.str "less")) aNil))) (eCallP 2 f__law_taken (aCons (eV 0) (aCons (eC (.int 2)) aNil)))) aNil))) (mTp 2 (msCons (mSub (eV 2) (eC (.str "close"))) (msCons (mSub (eV 2) (eC (.str "join"))) msNil)))) (sSeq (sIf (tV (e2 gtR (eCallP 2 f__law_taken (aCons (eV 0) (aCons (eC (.int 3)) aNil))) (eC (.int 0)))) (sAsg (e2 addR (e2 ixR2 (eV 2) (eC (.str "rules"))) (eTup (aCons (eTup (aCons (eTup aNil) (aCons (e2 ixR2 (eLst (aCons (eC (.str "full")) (aCons (eC (.str "least")) aNil))) (eCallP 2 f__law_taken (aCons (eV 0) (aCons (eC (.int 2)) aNil)))) aNil))) aNil))) (mSub (eV 2) (eC (.str "rules")))) sNil) (sRet (eV 2))))))))
def f__law_drawn : List Iv.R → M Iv.R := runB 8 g__law_drawn
theorem k__law_drawn (fs : Fs K mg) (c__law_kind : FnQ P w K mg base (He.ga K "_law_kind") 2 2 f__law_kind) (c__law_rule : FnQ P w K mg base (He.ga K "_law_rule") 2 1 f__law_rule) (c__law_taken : FnQ P w K mg base (He.ga K "_law_taken") 1 2 f__law_taken) (Fd : FunD K "_law_drawn" "_law_drawn" (defArgs s__law_drawn) (defBody s__law_drawn) (defScope s__law_drawn) [] [] f fd) : FnQ P w K mg base f 3 1 f__law_drawn :=
  FnQ.mk' Fd sc__law_drawn rfl (Fd.bindsN fun _ _ _ _ _ _ us hl => match us, hl with | [_], _ => rfl) rfl fun cdv A outer s H E hr => by
    have hN := (sc__law_drawn).nd
    have hu := room65 hr
    have hu4 := room64 hr
    have hu1 := room1 hr
    have tk := takes_of (E := E) (X := cxOf (L2.CX P w) P w K mg base ["_law_row", "_law_roles", "_law_d", "_law_role", "_law_many", "_law_some", "_law_k", "_law_one"] "_law_drawn" (defScope s__law_drawn) f cdv A outer s H E) rfl rfl rfl rfl
    exact (q_cons (q_set (i := 1) hN rfl (.inr rfl) (q_ix2 hu (q_lst (q_acons (q_tup (q_acons q_str (q_acons q_str (q_acons q_str q_anil)))) (q_acons (q_tup (q_acons q_str (q_acons q_str q_anil))) (q_acons (q_tup (q_acons q_str q_anil)) (q_acons (q_tup (q_acons q_str (q_acons q_str (q_acons q_str (q_acons q_str q_anil))))) q_anil))))) (q_callP c__law_taken (hr.mono (by decide)) rfl fs.g__law_taken tk (q_acons (q_var (pv 0)) (q_acons q_int q_anil))))) (q_cons (q_set (i := 2) hN rfl (.inl rfl) (q_rcd (q_pcons (q_var (pv 1)) (q_pcons q_dicC q_pnil)) (by decide) (by decide) rfl rfl (by simp) (by decide) (aCons_len (aCons_len aNil_len)))) (q_cons (q_for (passes_of rfl) rfl (q_ita (q_rev (q_var (pv 1)))) (q_gn (i := 3) hN rfl (.inl rfl)) (q_one (q_sif (q_w (q_or (q_tcmp (oq_eq hu4) (q_var (pv 3)) (q_ix2 hu (q_var (pv 1)) (q_neg q_int))) (q_or1 (q_tcmp (oq_eq hu4) (q_callP c__law_taken (hr.mono (by decide)) rfl fs.g__law_taken tk (q_acons (q_var (pv 0)) (q_acons q_int q_anil))) q_int)))) (q_cons (q_set (i := 4) hN rfl (.inl rfl) (q_op oq_add q_int (q_if (q_w (q_and (q_tcmp (oq_eq hu4) (q_var (pv 3)) (q_ix2 hu (q_var (pv 1)) (q_neg q_int))) (q_and1 (q_tcmp oq_lt (q_callB cq_len2 rfl fs.f_len rfl (q_acons (q_var (pv 1)) q_anil)) q_int)))) (q_callP c__law_taken (hr.mono (by decide)) rfl fs.g__law_taken tk (q_acons (q_var (pv 0)) (q_acons q_int q_anil))) q_int))) (q_cons (q_set (i := 5) hN rfl (.inr rfl) (q_lc rfl hN (q_itr rfl fs.f_range (q_var (pv 4))) (own := [("_law_k", 6)]) (blk_ok rfl) (by decide) (fun _ _ _ _ _ => (q_gn (i := 6) hN rfl (.inl rfl))) (fun _ _ _ _ _ => pts_yes) (fun _ _ _ _ _ => (q_callP c__law_kind (hr.mono (by decide)) rfl fs.g__law_kind takes0 (q_acons (q_var (pv 0)) (q_acons (q_var (pv 1)) q_anil)))))) (q_one (q_asg (q_callTy cq_tuple rfl fs.f_tuple rfl (q_acons (q_op oq_add (q_sl (q_var (pv 5)) q_ono (q_osome q_int)) (q_lc rfl hN (q_ita (q_sl (q_var (pv 5)) (q_osome q_int) q_ono)) (own := [("_law_one", 7)]) (blk_ok rfl) (by decide) (fun _ _ _ _ _ => (q_gn (i := 7) hN rfl (.inl rfl))) (fun _ _ _ _ _ => (pts_one (q_tcmp (oq_ne hu4) (q_var (pv 7)) (q_ix2 hu (q_var (pv 5)) q_int)))) (fun _ _ _ _ _ => (q_var (pv 7))))) q_anil)) (q_msub hu1 (q_ix2 hu (q_var (pv 2)) q_str) (q_var (pv 3))))))) q_nil))) (q_cons (q_asg (q_callTy cq_tuple rfl fs.f_tuple rfl (q_acons (q_lc rfl hN (q_itr rfl fs.f_range (q_callP c__law_taken (hr.mono (by decide)) rfl fs.g__law_taken tk (q_acons (q_var (pv 0)) (q_acons q_int q_anil)))) (own := [("_law_k", 6)]) (blk_ok rfl) (by decide) (fun _ _ _ _ _ => (q_gn (i := 6) hN rfl (.inl rfl))) (fun _ _ _ _ _ => pts_yes) (fun _ _ _ _ _ => (q_callP c__law_rule (hr.mono (by decide)) rfl fs.g__law_rule takes0 (q_acons (q_var (pv 0)) q_anil)))) q_anil)) (q_msub hu1 (q_var (pv 2)) q_str)) (q_cons (q_asg (q_tup (q_acons (q_ix2 hu (q_lst (q_acons q_str (q_acons q_str q_anil))) (q_callP c__law_taken (hr.mono (by decide)) rfl fs.g__law_taken tk (q_acons (q_var (pv 0)) (q_acons q_int q_anil)))) (q_acons (q_ix2 hu (q_lst (q_acons q_str (q_acons q_str q_anil))) (q_callP c__law_taken (hr.mono (by decide)) rfl fs.g__law_taken tk (q_acons (q_var (pv 0)) (q_acons q_int q_anil)))) q_anil))) (q_mtp rfl (q_mscons (q_msub hu1 (q_var (pv 2)) q_str) (q_mscons (q_msub hu1 (q_var (pv 2)) q_str) q_msnil)))) (q_cons (q_sif (q_tcmp oq_gt (q_callP c__law_taken (hr.mono (by decide)) rfl fs.g__law_taken tk (q_acons (q_var (pv 0)) (q_acons q_int q_anil))) q_int) (q_one (q_asg (q_op oq_add (q_ix2 hu (q_var (pv 2)) q_str) (q_tup (q_acons (q_tup (q_acons (q_tup q_anil) (q_acons (q_ix2 hu (q_lst (q_acons q_str (q_acons q_str q_anil))) (q_callP c__law_taken (hr.mono (by decide)) rfl fs.g__law_taken tk (q_acons (q_var (pv 0)) (q_acons q_int q_anil)))) q_anil))) q_anil))) (q_msub hu1 (q_var (pv 2)) q_str))) q_nil) (q_one (q_ret (q_var (pv 2))))))))))

abbrev s__law_book : Stmt := top 41
theorem sc__law_book : FnScope ["_law_d"] ["_law_d"] (defScope s__law_book) := ⟨rfl, rfl, rfl, by decide +kernel, rfl, by decide +kernel, by decide +kernel⟩
def g__law_book : Iv.Env → SM := (sRet (eMk 6 (mkP "Book" f_Book__init) (aCons (e2 ixR2 (eV 0) (eC (.str "roles"))) (aCons (e2 ixR2 (eV 0) (eC (.str "grants"))) (aCons (e2 ixR2 (eV 0) (eC (.str "rules"))) (aCons (e2 ixR2 (eV 0) (eC (.str "close"))) (aCons (e2 ixR2 (eV 0) (eC (.str "join"))) aNil)))))))
def f__law_book : List Iv.R → M Iv.R := runB 1 g__law_book
theorem k__law_book (fs : Fs K mg) (c_Book__init : FnQ P w K mg base (He.ma K (He.ga K "Book") "__init__") 5 6 f_Book__init) (Fd : FunD K "_law_book" "_law_book" (defArgs s__law_book) (defBody s__law_book) (defScope s__law_book) [] [] f fd) : FnQ P w K mg base f 7 1 f__law_book :=
  FnQ.mk' Fd sc__law_book rfl (Fd.bindsN fun _ _ _ _ _ _ us hl => match us, hl with | [_], _ => rfl) rfl fun cdv A outer s H E hr => by
    have hN := (sc__law_book).nd
    have hu := room65 hr
    have hu4 := room64 hr
    have hu1 := room1 hr
    have tk := takes_of (E := E) (X := cxOf (L2.CX P w) P w K mg base ["_law_d"] "_law_book" (defScope s__law_book) f cdv A outer s H E) rfl rfl rfl rfl
    exact (q_one (q_ret (q_mkP rfl c_Book__init fs.m_Book (hr.mono (by decide)) rfl fs.g_Book tk (q_acons (q_ix2 hu (q_var (pv 0)) q_str) (q_acons (q_ix2 hu (q_var (pv 0)) q_str) (q_acons (q_ix2 hu (q_var (pv 0)) q_str) (q_acons (q_ix2 hu (q_var (pv 0)) q_str) (q_acons (q_ix2 hu (q_var (pv 0)) q_str) q_anil))))))))

abbrev s__law_all_mends : Stmt := top 42
theorem sc__law_all_mends : FnScope ["_law_d", "_law_words", "_law_found", "_law_k", "_law_answer", "_law_word"] ["_law_d"] (defScope s__law_all_mends) := ⟨rfl, rfl, rfl, by decide +kernel, rfl, by decide +kernel, by decide +kernel⟩
def g__law_all_mends : Iv.Env → SM := (sSeq (sSet 1 (eLst (aCons (eC (.str "closed")) (aCons (eC (.str "in")) (aCons (eC (.str "late")) (aCons (eC (.str "low")) (aCons (eC (.str "other")) (aCons (eC (.str "poor")) (aCons (eC (.str "spent")) (aCons (eC (.str "taken")) aNil)))))))))) (sSeq (sSet 2 (eLcC [5] (itA (eV 1)) (gN 5) tYes (eTup (aCons (eC (.str "bar")) (aCons (eV 5) aNil))))) (sSeq (sFor (itR (eA lenR2 (aCons (e2 ixR2 (eV 0) (eC (.str "rules"))) aNil))) (gN 3) (sFor (itA (eLst (aCons (eC (.str "refuse")) (aCons (eC (.str "full")) (aCons (eC (.str "least")) aNil))))) (gN 4) (sIf (tV (e2 neR (eV 4) (e2 ixR2 (e2 ixR2 (e2 ixR2 (eV 0) (eC (.str "rules"))) (eV 3)) (eC (.int 1))))) (sExpr (eM "list" apR (eV 2) (aCons (eTup (aCons (eC (.str "turn")) (aCons (eV 3) (aCons (eV 4) aNil)))) aNil))) sNil))) (sRet (eV 2)))))
def f__law_all_mends : List Iv.R → M Iv.R := runB 6 g__law_all_mends
theorem k__law_all_mends (fs : Fs K mg) (Fd : FunD K "_law_all_mends" "_law_all_mends" (defArgs s__law_all_mends) (defBody s__law_all_mends) (defScope s__law_all_mends) [] [] f fd) : FnQ P w K mg base f 1 1 f__law_all_mends :=
  FnQ.mk' Fd sc__law_all_mends rfl (Fd.bindsN fun _ _ _ _ _ _ us hl => match us, hl with | [_], _ => rfl) rfl fun cdv A outer s H E hr => by
    have hN := (sc__law_all_mends).nd
    have hu := room65 hr
    have hu4 := room64 hr
    have hu1 := room1 hr
    have tk := takes_of (E := E) (X := cxOf (L2.CX P w) P w K mg base ["_law_d", "_law_words", "_law_found", "_law_k", "_law_answer", "_law_word"] "_law_all_mends" (defScope s__law_all_mends) f cdv A outer s H E) rfl rfl rfl rfl
    exact (q_cons (q_set (i := 1) hN rfl (.inl rfl) (q_lst (q_acons q_str (q_acons q_str (q_acons q_str (q_acons q_str (q_acons q_str (q_acons q_str (q_acons q_str (q_acons q_str q_anil)))))))))) (q_cons (q_setLcC (i := 2) rfl hN rfl rfl rfl (q_ita (q_var (pv 1))) (own := [("_law_word", 5)]) (blk_ok rfl) (by decide) (fun _ _ _ _ _ => (q_gn (i := 5) hN rfl (.inl rfl))) (fun _ _ _ _ _ => pts_yes) (fun _ _ _ _ _ => (q_tup (q_acons q_str (q_acons (q_var (pv 5)) q_anil))))) (q_cons (q_for (passes_of rfl) rfl (q_itr rfl fs.f_range (q_callB cq_len2 rfl fs.f_len rfl (q_acons (q_ix2 hu (q_var (pv 0)) q_str) q_anil))) (q_gn (i := 3) hN rfl (.inl rfl)) (q_one (q_for (passes_of rfl) rfl (q_ita (q_lst (q_acons q_str (q_acons q_str (q_acons q_str q_anil))))) (q_gn (i := 4) hN rfl (.inl rfl)) (q_one (q_sif (q_tcmp (oq_ne hu4) (q_var (pv 4)) (q_ix2 hu (q_ix2 hu (q_ix2 hu (q_var (pv 0)) q_str) (q_var (pv 3))) q_int)) (q_one (q_expr (q_bm (pe_mG ty_b F.plainAttrs_list F.slot_list_append F.type_list_append mq_append (q_var (pv 2)) (q_acons (q_tup (q_acons q_str (q_acons (q_var (pv 3)) (q_acons (q_var (pv 4)) q_anil)))) q_anil))))) q_nil))))) (q_one (q_ret (q_var (pv 2)))))))

abbrev s__law_due : Stmt := top 43
theorem sc__law_due : FnScope ["_law_d", "_law_mends", "_law_k", "_law_rules", "_law_known", "_law_turns", "_law_shuts", "_law_mend", "_law_word", "_law_one"] ["_law_d", "_law_mends"] (defScope s__law_due) := ⟨rfl, rfl, rfl, by decide +kernel, rfl, by decide +kernel, by decide +kernel⟩
def g__law_due : Iv.Env → SM := (sSeq (sPar3 4 5 6 (aCons (eCallP 1 f__law_all_mends (aCons (eV 0) aNil)) (aCons eDicC (aCons (eLstC aNil) aNil)))) (sSeq (sFor (itR (eA lenR2 (aCons (eV 1) aNil))) (gN 2) (sSeq (sSet 7 (e2 ixR2 (eV 1) (eV 2))) (sSeq (sIf (tV (e2 ninR2 (eA reprR (aCons (eV 7) aNil)) (eLc [9] (itA (eV 4)) (gN 9) tYes (eA reprR (aCons (eV 9) aNil))))) (sRet (eLst (aCons (eC (.str "mend")) (aCons (eV 2) aNil)))) sNil) (sIf (tV (e2 eqR (e2 ixR2 (eV 7) (eC (.int 0))) (eC (.str "turn")))) (sSeq (sIf (tV (e2 neR (eM "dict" getR (eV 5) (aCons (e2 ixR2 (eV 7) (eC (.int 1))) (aCons (e2 ixR2 (eV 7) (eC (.int 2))) aNil))) (e2 ixR2 (eV 7) (eC (.int 2))))) (sRet (eLst (aCons (eC (.str "mend")) (aCons (eV 2) aNil)))) sNil) (sAsg (e2 ixR2 (eV 7) (eC (.int 2))) (mSub (eV 5) (e2 ixR2 (eV 7) (eC (.int 1)))))) (sIf (tV (e2 ninR2 (e2 ixR2 (eV 7) (eC (.int 1))) (eV 6))) (sExpr (eM "list" apR (eV 6) (aCons (e2 ixR2 (eV 7) (eC (.int 1))) aNil))) sNil))))) (sSeq (sSet 3 (eLcC [8] (itA (eA sortedR (aCons (eV 6) aNil))) (gN 8) tYes (eTup (aCons (eTup (aCons (eTup (aCons (eV 8) (aCons (eC (.bl true)) aNil))) aNil)) (aCons (eC (.str "refuse")) aNil))))) (sSeq (sFor (itR (eA lenR2 (aCons (e2 ixR2 (eV 0) (eC (.str "rules"))) aNil))) (gN 2) (sExpr (eM "list" apR (eV 3) (aCons (eTup (aCons (e2 ixR2 (e2 ixR2 (e2 ixR2 (eV 0) (eC (.str "rules"))) (eV 2)) (eC (.int 0))) (aCons (eM "dict" getR (eV 5) (aCons (eV 2) (aCons (e2 ixR2 (e2 ixR2 (e2 ixR2 (eV 0) (eC (.str "rules"))) (eV 2)) (eC (.int 1))) aNil))) aNil))) aNil)))) (sRet (eIf (tV (e2 gtR (eA lenR2 (aCons (eV 3) aNil)) (eC (.int 6)))) (eLst (aCons (eC (.str "rule")) (aCons (eC (.int 6)) aNil))) (eA tupleR (aCons (eV 3) aNil))))))))
def f__law_due : List Iv.R → M Iv.R := runB 10 g__law_due
theorem k__law_due (fs : Fs K mg) (c__law_all_mends : FnQ P w K mg base (He.ga K "_law_all_mends") 1 1 f__law_all_mends) (Fd : FunD K "_law_due" "_law_due" (defArgs s__law_due) (defBody s__law_due) (defScope s__law_due) [] [] f fd) : FnG P w K mg base f 2 2 f__law_due :=
  FnG.mk' Fd sc__law_due rfl (Fd.bindsN fun _ _ _ _ _ _ us hl => match us, hl with | [_, _], _ => rfl) rfl fun cdv A outer s H E hG hr => by
    have hN := (sc__law_due).nd
    have hu := room65 hr
    have hu4 := room64 hr
    have hu1 := room1 hr
    have tk := takes_of (E := E) (X := cxOf (L2.CX P w) P w K mg base ["_law_d", "_law_mends", "_law_k", "_law_rules", "_law_known", "_law_turns", "_law_shuts", "_law_mend", "_law_word", "_law_one"] "_law_due" (defScope s__law_due) f cdv A outer s H E) rfl rfl rfl rfl
    exact (q_cons (q_par3 (i := 4) (j := 5) (l := 6) rfl hN rfl rfl rfl (by decide) (by decide) (by decide) rfl rfl rfl (q_acons (q_callP c__law_all_mends (hr.mono (by decide)) rfl fs.g__law_all_mends tk (q_acons (q_var (pv 0)) q_anil)) (q_acons q_dicC (q_acons (q_lstC q_anil) q_anil)))) (q_cons (q_for (passes_of rfl) rfl (q_itr rfl fs.f_range (q_callB cq_len2 rfl fs.f_len rfl (q_acons (q_var (pv 1)) q_anil))) (q_gn (i := 2) hN rfl (.inl rfl)) (q_cons (q_set (i := 7) hN rfl (.inl rfl) (q_ix2 hu (q_var (pv 1)) (q_var (pv 2)))) (q_cons (q_sif (q_tcmp (oq_nin2 hu) (q_callB (cq_repr hG hu4) rfl fs.f_repr rfl (q_acons (q_var (pv 7)) q_anil)) (q_lc rfl hN (q_ita (q_var (pv 4))) (own := [("_law_one", 9)]) (blk_ok rfl) (by decide) (fun _ _ _ _ _ => (q_gn (i := 9) hN rfl (.inl rfl))) (fun _ _ _ _ _ => pts_yes) (fun _ _ _ _ _ => (q_callB (cq_repr hG hu4) rfl fs.f_repr rfl (q_acons (q_var (pv 9)) q_anil))))) (q_one (q_ret (q_lst (q_acons q_str (q_acons (q_var (pv 2)) q_anil))))) q_nil) (q_one (q_sif (q_tcmp (oq_eq hu4) (q_ix2 hu (q_var (pv 7)) q_int) q_str) (q_cons (q_sif (q_tcmp (oq_ne hu4) (q_bm (pe_mG ty_b F.plainAttrs_dict F.slot_dict_get F.type_dict_get (mq_get hu1) (q_var (pv 5)) (q_acons (q_ix2 hu (q_var (pv 7)) q_int) (q_acons (q_ix2 hu (q_var (pv 7)) q_int) q_anil)))) (q_ix2 hu (q_var (pv 7)) q_int)) (q_one (q_ret (q_lst (q_acons q_str (q_acons (q_var (pv 2)) q_anil))))) q_nil) (q_one (q_asg (q_ix2 hu (q_var (pv 7)) q_int) (q_msub hu1 (q_var (pv 5)) (q_ix2 hu (q_var (pv 7)) q_int))))) (q_one (q_sif (q_tcmp (oq_nin2 hu) (q_ix2 hu (q_var (pv 7)) q_int) (q_var (pv 6))) (q_one (q_expr (q_bm (pe_mG ty_b F.plainAttrs_list F.slot_list_append F.type_list_append mq_append (q_var (pv 6)) (q_acons (q_ix2 hu (q_var (pv 7)) q_int) q_anil))))) q_nil))))))) (q_cons (q_setLcC (i := 3) rfl hN rfl rfl rfl (q_ita (q_callB cq_sorted rfl fs.f_sorted rfl (q_acons (q_var (pv 6)) q_anil))) (own := [("_law_word", 8)]) (blk_ok rfl) (by decide) (fun _ _ _ _ _ => (q_gn (i := 8) hN rfl (.inl rfl))) (fun _ _ _ _ _ => pts_yes) (fun _ _ _ _ _ => (q_tup (q_acons (q_tup (q_acons (q_tup (q_acons (q_var (pv 8)) (q_acons q_bl q_anil))) q_anil)) (q_acons q_str q_anil))))) (q_cons (q_for (passes_of rfl) rfl (q_itr rfl fs.f_range (q_callB cq_len2 rfl fs.f_len rfl (q_acons (q_ix2 hu (q_var (pv 0)) q_str) q_anil))) (q_gn (i := 2) hN rfl (.inl rfl)) (q_one (q_expr (q_bm (pe_mG ty_b F.plainAttrs_list F.slot_list_append F.type_list_append mq_append (q_var (pv 3)) (q_acons (q_tup (q_acons (q_ix2 hu (q_ix2 hu (q_ix2 hu (q_var (pv 0)) q_str) (q_var (pv 2))) q_int) (q_acons (q_bm (pe_mG ty_b F.plainAttrs_dict F.slot_dict_get F.type_dict_get (mq_get hu1) (q_var (pv 5)) (q_acons (q_var (pv 2)) (q_acons (q_ix2 hu (q_ix2 hu (q_ix2 hu (q_var (pv 0)) q_str) (q_var (pv 2))) q_int) q_anil)))) q_anil))) q_anil)))))) (q_one (q_ret (q_if (q_tcmp oq_gt (q_callB cq_len2 rfl fs.f_len rfl (q_acons (q_var (pv 3)) q_anil)) q_int) (q_lst (q_acons q_str (q_acons q_int q_anil))) (q_callTy cq_tuple rfl fs.f_tuple rfl (q_acons (q_var (pv 3)) q_anil)))))))))

abbrev s__law_told : Stmt := top 44
theorem sc__law_told : FnScope ["_law_book_here", "_law_mends", "e", "_law_told_here"] ["_law_book_here", "_law_mends"] (defScope s__law_told) := ⟨rfl, rfl, rfl, by decide +kernel, rfl, by decide +kernel, by decide +kernel⟩
def g__law_told : Iv.Env → SM := (sSeq (sTry ["InvalidRoles", "InvalidGrants", "InvalidRule", "InvalidBook", "UnknownMend"] (sSet 3 (eProp "Book" 1 f_Book__rules (eCallP 2 f_mended (aCons (eV 0) (aCons (eV 1) aNil))))) [.named "UnknownMend" 2 (xSet 3 (xIf (xTest (xIs "UnknownMend" true)) (xLst (xCons (xOf (eC (.str "mend"))) (xCons (xFld "UnknownMend" "index") (xOf aNil)))) (xOf (eC .non)))), .named "InvalidRule" 2 (xSet 3 (xLst (xCons (xOf (eC (.str "rule"))) (xCons (xFld "InvalidRule" "index") (xOf aNil)))))]) (sRet (eV 3)))
def f__law_told : List Iv.R → M Iv.R := runB 4 g__law_told
theorem k__law_told (fs : Fs K mg) (c_Book__rules : FnQ P w K mg base (getterOf K "Book" "rules") 1 1 f_Book__rules) (c_mended : FnQ P w K mg base (He.ga K "mended") 9 2 f_mended) (Fd : FunD K "_law_told" "_law_told" (defArgs s__law_told) (defBody s__law_told) (defScope s__law_told) [] [] f fd) : FnQ P w K mg base f 10 2 f__law_told :=
  FnQ.mk' Fd sc__law_told rfl (Fd.bindsN fun _ _ _ _ _ _ us hl => match us, hl with | [_, _], _ => rfl) rfl fun cdv A outer s H E hr => by
    have hN := (sc__law_told).nd
    have hu := room65 hr
    have hu4 := room64 hr
    have hu1 := room1 hr
    have tk := takes_of (E := E) (X := cxOf (L2.CX P w) P w K mg base ["_law_book_here", "_law_mends", "e", "_law_told_here"] "_law_told" (defScope s__law_told) f cdv A outer s H E) rfl rfl rfl rfl
    exact (q_cons (q_try rfl rfl tk fs.xm (fun W pn xe tk po => (q_one (q_set (i := 3) hN rfl (.inl rfl) (q_prop c_Book__rules (hr.mono (by decide)) fs.c_Book fs.pr_Book_rules (q_callP c_mended (hr.mono (by decide)) rfl fs.g_mended tk (q_acons (q_var (pv 0)) (q_acons (q_var (pv 1)) q_anil))))))) (.named (i := 2) rfl fs.g_UnknownMend (by decide) hN rfl rfl (fun a oe cls d pn hz hf => pss_one (x_set (j := 3) hN rfl (.inl rfl) (x_if (x_test (x_is fs.xc_UnknownMend fs.xk_UnknownMend_InviteError hz hf fs.f_isinstance rfl (pv 2) rfl fs.g_InviteError)) (x_lst (x_acons (x_of q_str) (x_acons (x_fld fs.xf_UnknownMend fs.n_UnknownMend_index hz hf (pv 2)) x_anil))) (x_of q_non)))) (.named (i := 2) rfl fs.g_InvalidRule (by decide) hN rfl rfl (fun a oe cls d pn hz hf => pss_one (x_set (j := 3) hN rfl (.inl rfl) (x_lst (x_acons (x_of q_str) (x_acons (x_fld fs.xf_InvalidRule fs.n_InvalidRule_index hz hf (pv 2)) x_anil))))) .nil)) (by decide)) (q_one (q_ret (q_var (pv 3)))))

abbrev s_law : Stmt := top 45
theorem sc_law : FnScope ["_law_script", "_law_row", "_law_turn", "_law_d", "_law_k", "_law_book_here", "_law_every", "_law_some", "_law_bad", "_law_same", "_law_at", "_law_j"] ["_law_script"] (defScope s_law) := ⟨rfl, rfl, rfl, by decide +kernel, rfl, by decide +kernel, by decide +kernel⟩
def g_law : Iv.Env → SM := (sSeq (sSet 1 (eLstC (aCons (eV 0) (aCons (eC (.int 0)) (aCons (eC (.int 0)) (aCons (eC (.int 0)) aNil)))))) (sSeq (sFor (itR (eC (.int 3))) (gN 2) (sSeq (sSet 3 (eCallP 1 f__law_drawn (aCons (eV 1) aNil))) (sSeq (sUnp (eTup (aCons (eCallP 1 f__law_book (aCons (eV 3) aNil)) (aCons (eCallP 1 f__law_all_mends (aCons (eV 3) aNil)) aNil))) (gTp 2 (gsCons (gN 5) (gsCons (gN 6) gsNil)))) (sSeq (sIf (tV (e2 neR (eCallP 1 f_mends_of (aCons (eV 5) aNil)) (eV 6))) (sRet (eC (.bl false))) sNil) (sFor (itR (eC (.int 5))) (gN 4) (sSeq (sSet 7 (eLc [11] (itR (eCallP 2 f__law_taken (aCons (eV 1) (aCons (eC (.int 5)) aNil)))) (gN 11) tYes (e2 ixR2 (eV 6) (eCallP 2 f__law_taken (aCons (eV 1) (aCons (eA lenR2 (aCons (eV 6) aNil)) aNil)))))) (sSeq (sIf (tV (e2 eqR (eCallP 2 f__law_taken (aCons (eV 1) (aCons (eC (.int 2)) aNil))) (eC (.int 0)))) (sSeq (sSet 8 (eLst (aCons (eC .non) (aCons (eTup (aCons (eC (.str "bar")) (aCons (eC (.str "lost")) aNil))) (aCons (eTup (aCons (eC (.str "turn")) (aCons (eC (.int 9)) (aCons (eC (.str "full")) aNil)))) (aCons (eC (.str "bar")) (aCons (eTup (aCons (eC (.str "turn")) (aCons (eC (.bl true)) (aCons (eC (.str "full")) aNil)))) (aCons (eTup aNil) (aCons (eLst (aCons (eC (.str "bar")) (aCons (eC (.str "in")) aNil))) aNil))))))))) (sSeq (sSet 9 (eIf (tV (e2 gtR (eLenO "Book" f_Book__len (eV 5)) (eC (.int 0)))) (e2 ixR2 (e2 ixR2 (e2 ixR2 (eV 3) (eC (.str "rules"))) (eC (.int 0))) (eC (.int 1))) (eC (.str "full")))) (sSeq (sSet 8 (e2 addR (eV 8) (eLst (aCons (eTup (aCons (eC (.str "turn")) (aCons (eC (.int 0)) (aCons (eC (.str "lost")) aNil)))) (aCons (eTup (aCons (eC (.str "bar")) aNil)) (aCons (eTup (aCons (eC (.str "turn")) (aCons (eC (.int 0)) aNil))) (aCons (eTup (aCons (eC (.str "turn")) (aCons (eC (.int 0)) (aCons (eV 9) aNil)))) aNil))))))) (sSeq (sSet 10 (eCallP 2 f__law_taken (aCons (eV 1) (aCons (e2 addR (eA lenR2 (aCons (eV 7) aNil)) (eC (.int 1))) aNil)))) (sSet 7 (e2 addR (e2 addR (eSl (eV 7) oNo (oSome (eV 10))) (eLst (aCons (e2 ixR2 (eV 8) (eCallP 2 f__law_taken (aCons (eV 1) (aCons (eA lenR2 (aCons (eV 8) aNil)) aNil)))) aNil))) (eSl (eV 7) (oSome (eV 10)) oNo))))))) sNil) (sIf (tV (e2 neR (eCallP 2 f__law_told (aCons (eV 5) (aCons (eIf (tV (e2 eqR (eV 4) (eC (.int 0)))) (eA tupleR (aCons (eV 7) aNil)) (eV 7)) aNil))) (eCallP 2 f__law_due (aCons (eV 3) (aCons (eV 7) aNil))))) (sRet (eC (.bl false))) sNil)))))))) (sRet (eC (.bl true)))))
def f_law : List Iv.R → M Iv.R := runB 12 g_law
theorem k_law (fs : Fs K mg) (c_Book__len : FnQ P w K mg base (He.ma K (He.ga K "Book") "__len__") 1 1 f_Book__len) (c__law_all_mends : FnQ P w K mg base (He.ga K "_law_all_mends") 1 1 f__law_all_mends) (c__law_book : FnQ P w K mg base (He.ga K "_law_book") 7 1 f__law_book) (c__law_drawn : FnQ P w K mg base (He.ga K "_law_drawn") 3 1 f__law_drawn) (c__law_due : FnG P w K mg base (He.ga K "_law_due") 2 2 f__law_due) (c__law_taken : FnQ P w K mg base (He.ga K "_law_taken") 1 2 f__law_taken) (c__law_told : FnQ P w K mg base (He.ga K "_law_told") 10 2 f__law_told) (c_mends_of : FnQ P w K mg base (He.ga K "mends_of") 1 1 f_mends_of) (Fd : FunD K "law" "law" (defArgs s_law) (defBody s_law) (defScope s_law) [] [] f fd) : FnG P w K mg base f 11 1 f_law :=
  FnG.mk' Fd sc_law rfl (Fd.bindsN fun _ _ _ _ _ _ us hl => match us, hl with | [_], _ => rfl) rfl fun cdv A outer s H E hG hr => by
    have hN := (sc_law).nd
    have hu := room65 hr
    have hu4 := room64 hr
    have hu1 := room1 hr
    have tk := takes_of (E := E) (X := cxOf (L2.CX P w) P w K mg base ["_law_script", "_law_row", "_law_turn", "_law_d", "_law_k", "_law_book_here", "_law_every", "_law_some", "_law_bad", "_law_same", "_law_at", "_law_j"] "law" (defScope s_law) f cdv A outer s H E) rfl rfl rfl rfl
    exact (q_cons (q_set (i := 1) hN rfl (.inr rfl) (q_lstC (q_acons (q_var (pv 0)) (q_acons q_int (q_acons q_int (q_acons q_int q_anil)))))) (q_cons (q_for (passes_of rfl) rfl (q_itr rfl fs.f_range q_int) (q_gn (i := 2) hN rfl (.inl rfl)) (q_cons (q_set (i := 3) hN rfl (.inl rfl) (q_callP c__law_drawn (hr.mono (by decide)) rfl fs.g__law_drawn tk (q_acons (q_var (pv 1)) q_anil))) (q_cons (q_unp (q_tup (q_acons (q_callP c__law_book (hr.mono (by decide)) rfl fs.g__law_book tk (q_acons (q_var (pv 3)) q_anil)) (q_acons (q_callP c__law_all_mends (hr.mono (by decide)) rfl fs.g__law_all_mends tk (q_acons (q_var (pv 3)) q_anil)) q_anil))) (q_gtp rfl (q_gscons (q_gn (i := 5) hN rfl (.inl rfl)) (q_gscons (q_gn (i := 6) hN rfl (.inr rfl)) q_gsnil)))) (q_cons (q_sif (q_tcmp (oq_ne hu4) (q_callP c_mends_of (hr.mono (by decide)) rfl fs.g_mends_of tk (q_acons (q_var (pv 5)) q_anil)) (q_var (pv 6))) (q_one (q_ret q_bl)) q_nil) (q_one (q_for (passes_of rfl) rfl (q_itr rfl fs.f_range q_int) (q_gn (i := 4) hN rfl (.inl rfl)) (q_cons (q_setLc (i := 7) rfl hN rfl rfl rfl (q_itr rfl fs.f_range (q_callP c__law_taken (hr.mono (by decide)) rfl fs.g__law_taken tk (q_acons (q_var (pv 1)) (q_acons q_int q_anil)))) (own := [("_law_j", 11)]) (blk_ok rfl) (by decide) (fun _ _ _ _ _ => (q_gn (i := 11) hN rfl (.inl rfl))) (fun _ _ _ _ _ => pts_yes) (fun _ _ _ _ _ => (q_ix2 hu (q_var (pv 6)) (q_callP c__law_taken (hr.mono (by decide)) rfl fs.g__law_taken takes0 (q_acons (q_var (pv 1)) (q_acons (q_callB cq_len2 rfl fs.f_len rfl (q_acons (q_var (pv 6)) q_anil)) q_anil)))))) (q_cons (q_sif (q_tcmp (oq_eq hu4) (q_callP c__law_taken (hr.mono (by decide)) rfl fs.g__law_taken tk (q_acons (q_var (pv 1)) (q_acons q_int q_anil))) q_int) (q_cons (q_set (i := 8) hN rfl (.inl rfl) (q_lst (q_acons q_non (q_acons (q_tup (q_acons q_str (q_acons q_str q_anil))) (q_acons (q_tup (q_acons q_str (q_acons q_int (q_acons q_str q_anil)))) (q_acons q_str (q_acons (q_tup (q_acons q_str (q_acons q_bl (q_acons q_str q_anil)))) (q_acons (q_tup q_anil) (q_acons (q_lst (q_acons q_str (q_acons q_str q_anil))) q_anil))))))))) (q_cons (q_set (i := 9) hN rfl (.inl rfl) (q_if (q_tcmp oq_gt (q_lenO c_Book__len (hr.mono (by decide)) fs.mt_Book_len.at_ fs.mt_Book_len.fn rfl fs.f_len (q_var (pv 5))) q_int) (q_ix2 hu (q_ix2 hu (q_ix2 hu (q_var (pv 3)) q_str) q_int) q_int) q_str)) (q_cons (q_set (i := 8) hN rfl (.inl rfl) (q_op oq_add (q_var (pv 8)) (q_lst (q_acons (q_tup (q_acons q_str (q_acons q_int (q_acons q_str q_anil)))) (q_acons (q_tup (q_acons q_str q_anil)) (q_acons (q_tup (q_acons q_str (q_acons q_int q_anil))) (q_acons (q_tup (q_acons q_str (q_acons q_int (q_acons (q_var (pv 9)) q_anil)))) q_anil))))))) (q_cons (q_set (i := 10) hN rfl (.inl rfl) (q_callP c__law_taken (hr.mono (by decide)) rfl fs.g__law_taken tk (q_acons (q_var (pv 1)) (q_acons (q_op oq_add (q_callB cq_len2 rfl fs.f_len rfl (q_acons (q_var (pv 7)) q_anil)) q_int) q_anil)))) (q_one (q_set (i := 7) hN rfl (.inl rfl) (q_op oq_add (q_op oq_add (q_sl (q_var (pv 7)) q_ono (q_osome (q_var (pv 10)))) (q_lst (q_acons (q_ix2 hu (q_var (pv 8)) (q_callP c__law_taken (hr.mono (by decide)) rfl fs.g__law_taken tk (q_acons (q_var (pv 1)) (q_acons (q_callB cq_len2 rfl fs.f_len rfl (q_acons (q_var (pv 8)) q_anil)) q_anil)))) q_anil))) (q_sl (q_var (pv 7)) (q_osome (q_var (pv 10))) q_ono)))))))) q_nil) (q_one (q_sif (q_tcmp (oq_ne hu4) (q_callP c__law_told (hr.mono (by decide)) rfl fs.g__law_told tk (q_acons (q_var (pv 5)) (q_acons (q_if (q_tcmp (oq_eq hu4) (q_var (pv 4)) q_int) (q_callTy cq_tuple rfl fs.f_tuple rfl (q_acons (q_var (pv 7)) q_anil)) (q_var (pv 7))) q_anil))) (q_callPG c__law_due hG (hr.mono (by decide)) rfl fs.g__law_due tk (q_acons (q_var (pv 3)) (q_acons (q_var (pv 7)) q_anil)))) (q_one (q_ret q_bl)) q_nil)))))))))) (q_one (q_ret q_bl))))
end
/-! ### all of them -/
def d_InvalidRoles : DefP := ⟨fun K => He.ma K (He.ga K "InvalidRoles") "__init__", "__init__", "InvalidRoles.__init__", defArgs s_InvalidRoles, defBody s_InvalidRoles, defScope s_InvalidRoles⟩
def d_InvalidGrants : DefP := ⟨fun K => He.ma K (He.ga K "InvalidGrants") "__init__", "__init__", "InvalidGrants.__init__", defArgs s_InvalidGrants, defBody s_InvalidGrants, defScope s_InvalidGrants⟩
def d_InvalidRule : DefP := ⟨fun K => He.ma K (He.ga K "InvalidRule") "__init__", "__init__", "InvalidRule.__init__", defArgs s_InvalidRule, defBody s_InvalidRule, defScope s_InvalidRule⟩
def d_InvalidBook : DefP := ⟨fun K => He.ma K (He.ga K "InvalidBook") "__init__", "__init__", "InvalidBook.__init__", defArgs s_InvalidBook, defBody s_InvalidBook, defScope s_InvalidBook⟩
def d_UnknownMend : DefP := ⟨fun K => He.ma K (He.ga K "UnknownMend") "__init__", "__init__", "UnknownMend.__init__", defArgs s_UnknownMend, defBody s_UnknownMend, defScope s_UnknownMend⟩
def d_is_name : DefP := ⟨fun K => He.ga K "is_name", "is_name", "is_name", defArgs s_is_name, defBody s_is_name, defScope s_is_name⟩
def d_is_integer : DefP := ⟨fun K => He.ga K "is_integer", "is_integer", "is_integer", defArgs s_is_integer, defBody s_is_integer, defScope s_is_integer⟩
def d_is_one_of : DefP := ⟨fun K => He.ga K "is_one_of", "is_one_of", "is_one_of", defArgs s_is_one_of, defBody s_is_one_of, defScope s_is_one_of⟩
def d_are_roles : DefP := ⟨fun K => He.ga K "are_roles", "are_roles", "are_roles", defArgs s_are_roles, defBody s_are_roles, defScope s_are_roles⟩
def d_is_kind : DefP := ⟨fun K => He.ga K "is_kind", "is_kind", "is_kind", defArgs s_is_kind, defBody s_is_kind, defScope s_is_kind⟩
def d_are_kinds : DefP := ⟨fun K => He.ga K "are_kinds", "are_kinds", "are_kinds", defArgs s_are_kinds, defBody s_are_kinds, defScope s_are_kinds⟩
def d_check_grants : DefP := ⟨fun K => He.ga K "check_grants", "check_grants", "check_grants", defArgs s_check_grants, defBody s_check_grants, defScope s_check_grants⟩
def d_is_test : DefP := ⟨fun K => He.ga K "is_test", "is_test", "is_test", defArgs s_is_test, defBody s_is_test, defScope s_is_test⟩
def d_is_rule : DefP := ⟨fun K => He.ga K "is_rule", "is_rule", "is_rule", defArgs s_is_rule, defBody s_is_rule, defScope s_is_rule⟩
def d_check_rules : DefP := ⟨fun K => He.ga K "check_rules", "check_rules", "check_rules", defArgs s_check_rules, defBody s_check_rules, defScope s_check_rules⟩
def d_Book__init : DefP := ⟨fun K => He.ma K (He.ga K "Book") "__init__", "__init__", "Book.__init__", defArgs s_Book__init, defBody s_Book__init, defScope s_Book__init⟩
def d_Book__len : DefP := ⟨fun K => He.ma K (He.ga K "Book") "__len__", "__len__", "Book.__len__", defArgs s_Book__len, defBody s_Book__len, defScope s_Book__len⟩
def d_Book__rules : DefP := ⟨fun K => getterOf K "Book" "rules", "rules", "Book.rules", defArgs s_Book__rules, defBody s_Book__rules, defScope s_Book__rules⟩
def d_Book__with_rules : DefP := ⟨fun K => He.ma K (He.ga K "Book") "with_rules", "with_rules", "Book.with_rules", defArgs s_Book__with_rules, defBody s_Book__with_rules, defScope s_Book__with_rules⟩
def d_mends_of : DefP := ⟨fun K => He.ga K "mends_of", "mends_of", "mends_of", defArgs s_mends_of, defBody s_mends_of, defScope s_mends_of⟩
def d_is_mend : DefP := ⟨fun K => He.ga K "is_mend", "is_mend", "is_mend", defArgs s_is_mend, defBody s_is_mend, defScope s_is_mend⟩
def d_made : DefP := ⟨fun K => He.ga K "made", "made", "made", defArgs s_made, defBody s_made, defScope s_made⟩
def d_mended : DefP := ⟨fun K => He.ga K "mended", "mended", "mended", defArgs s_mended, defBody s_mended, defScope s_mended⟩
def d__law_taken : DefP := ⟨fun K => He.ga K "_law_taken", "_law_taken", "_law_taken", defArgs s__law_taken, defBody s__law_taken, defScope s__law_taken⟩
def d__law_kind : DefP := ⟨fun K => He.ga K "_law_kind", "_law_kind", "_law_kind", defArgs s__law_kind, defBody s__law_kind, defScope s__law_kind⟩
def d__law_rule : DefP := ⟨fun K => He.ga K "_law_rule", "_law_rule", "_law_rule", defArgs s__law_rule, defBody s__law_rule, defScope s__law_rule⟩
def d__law_drawn : DefP := ⟨fun K => He.ga K "_law_drawn", "_law_drawn", "_law_drawn", defArgs s__law_drawn, defBody s__law_drawn, defScope s__law_drawn⟩
def d__law_book : DefP := ⟨fun K => He.ga K "_law_book", "_law_book", "_law_book", defArgs s__law_book, defBody s__law_book, defScope s__law_book⟩
def d__law_all_mends : DefP := ⟨fun K => He.ga K "_law_all_mends", "_law_all_mends", "_law_all_mends", defArgs s__law_all_mends, defBody s__law_all_mends, defScope s__law_all_mends⟩
def d__law_due : DefP := ⟨fun K => He.ga K "_law_due", "_law_due", "_law_due", defArgs s__law_due, defBody s__law_due, defScope s__law_due⟩
def d__law_told : DefP := ⟨fun K => He.ga K "_law_told", "_law_told", "_law_told", defArgs s__law_told, defBody s__law_told, defScope s__law_told⟩
def d_law : DefP := ⟨fun K => He.ga K "law", "law", "law", defArgs s_law, defBody s_law, defScope s_law⟩
def fn : List DefP := [d_InvalidRoles, d_InvalidGrants, d_InvalidRule, d_InvalidBook, d_UnknownMend, d_is_name, d_is_integer, d_is_one_of, d_are_roles, d_is_kind, d_are_kinds, d_check_grants, d_is_test, d_is_rule, d_check_rules, d_Book__init, d_Book__len, d_Book__rules, d_Book__with_rules, d_mends_of, d_is_mend, d_made, d_mended, d__law_taken, d__law_kind, d__law_rule, d__law_drawn, d__law_book, d__law_all_mends, d__law_due, d__law_told, d_law]
theorem all_ok {P : Program} {w : World} {K : PySem.W.Frag} {mg : Str → Option Value} {base : Heap} (fs : Fs K mg) (D : SaysI (fun K => (factsL K).all id) fn K) : FnG P w K mg base (He.ga K "law") 11 1 f_law := by
  obtain ⟨fd0, F0⟩ := D.defs d_InvalidRoles (List.mem_of_getElem? (i := 0) rfl)
  have c_InvalidRoles := k_InvalidRoles (P := P) (w := w) (base := base) fs F0
  obtain ⟨fd1, F1⟩ := D.defs d_InvalidGrants (List.mem_of_getElem? (i := 1) rfl)
  have c_InvalidGrants := k_InvalidGrants (P := P) (w := w) (base := base) fs F1
  obtain ⟨fd2, F2⟩ := D.defs d_InvalidRule (List.mem_of_getElem? (i := 2) rfl)
  have c_InvalidRule := k_InvalidRule (P := P) (w := w) (base := base) fs F2
  obtain ⟨fd3, F3⟩ := D.defs d_InvalidBook (List.mem_of_getElem? (i := 3) rfl)
  have c_InvalidBook := k_InvalidBook (P := P) (w := w) (base := base) fs F3
  obtain ⟨fd4, F4⟩ := D.defs d_UnknownMend (List.mem_of_getElem? (i := 4) rfl)
  have c_UnknownMend := k_UnknownMend (P := P) (w := w) (base := base) fs F4
  obtain ⟨fd5, F5⟩ := D.defs d_is_name (List.mem_of_getElem? (i := 5) rfl)
  have c_is_name := k_is_name (P := P) (w := w) (base := base) fs F5
  obtain ⟨fd6, F6⟩ := D.defs d_is_integer (List.mem_of_getElem? (i := 6) rfl)
  have c_is_integer := k_is_integer (P := P) (w := w) (base := base) fs F6
  obtain ⟨fd7, F7⟩ := D.defs d_is_one_of (List.mem_of_getElem? (i := 7) rfl)
  have c_is_one_of := k_is_one_of (P := P) (w := w) (base := base) fs F7
  obtain ⟨fd8, F8⟩ := D.defs d_are_roles (List.mem_of_getElem? (i := 8) rfl)
  have c_are_roles := k_are_roles (P := P) (w := w) (base := base) fs c_is_name F8
  obtain ⟨fd9, F9⟩ := D.defs d_is_kind (List.mem_of_getElem? (i := 9) rfl)
  have c_is_kind := k_is_kind (P := P) (w := w) (base := base) fs c_is_integer c_is_one_of F9
  obtain ⟨fd10, F10⟩ := D.defs d_are_kinds (List.mem_of_getElem? (i := 10) rfl)
  have c_are_kinds := k_are_kinds (P := P) (w := w) (base := base) fs c_is_kind F10
  obtain ⟨fd11, F11⟩ := D.defs d_check_grants (List.mem_of_getElem? (i := 11) rfl)
  have c_check_grants := k_check_grants (P := P) (w := w) (base := base) fs c_InvalidGrants c_are_kinds c_is_one_of F11
  obtain ⟨fd12, F12⟩ := D.defs d_is_test (List.mem_of_getElem? (i := 12) rfl)
  have c_is_test := k_is_test (P := P) (w := w) (base := base) fs c_is_one_of F12
  obtain ⟨fd13, F13⟩ := D.defs d_is_rule (List.mem_of_getElem? (i := 13) rfl)
  have c_is_rule := k_is_rule (P := P) (w := w) (base := base) fs c_is_one_of c_is_test F13
  obtain ⟨fd14, F14⟩ := D.defs d_check_rules (List.mem_of_getElem? (i := 14) rfl)
  have c_check_rules := k_check_rules (P := P) (w := w) (base := base) fs c_InvalidRule c_is_rule F14
  obtain ⟨fd15, F15⟩ := D.defs d_Book__init (List.mem_of_getElem? (i := 15) rfl)
  have c_Book__init := k_Book__init (P := P) (w := w) (base := base) fs c_InvalidBook c_InvalidRoles c_are_roles c_check_grants c_check_rules c_is_one_of F15
  obtain ⟨fd16, F16⟩ := D.defs d_Book__len (List.mem_of_getElem? (i := 16) rfl)
  have c_Book__len := k_Book__len (P := P) (w := w) (base := base) fs F16
  obtain ⟨fd17, F17⟩ := D.defs d_Book__rules (List.mem_of_getElem? (i := 17) rfl)
  have c_Book__rules := k_Book__rules (P := P) (w := w) (base := base) fs F17
  obtain ⟨fd18, F18⟩ := D.defs d_Book__with_rules (List.mem_of_getElem? (i := 18) rfl)
  have c_Book__with_rules := k_Book__with_rules (P := P) (w := w) (base := base) fs c_Book__init F18
  obtain ⟨fd19, F19⟩ := D.defs d_mends_of (List.mem_of_getElem? (i := 19) rfl)
  have c_mends_of := k_mends_of (P := P) (w := w) (base := base) fs F19
  obtain ⟨fd20, F20⟩ := D.defs d_is_mend (List.mem_of_getElem? (i := 20) rfl)
  have c_is_mend := k_is_mend (P := P) (w := w) (base := base) fs c_is_integer c_is_one_of F20
  obtain ⟨fd21, F21⟩ := D.defs d_made (List.mem_of_getElem? (i := 21) rfl)
  have c_made := k_made (P := P) (w := w) (base := base) fs c_Book__with_rules F21
  obtain ⟨fd22, F22⟩ := D.defs d_mended (List.mem_of_getElem? (i := 22) rfl)
  have c_mended := k_mended (P := P) (w := w) (base := base) fs c_UnknownMend c_is_mend c_made c_mends_of F22
  obtain ⟨fd23, F23⟩ := D.defs d__law_taken (List.mem_of_getElem? (i := 23) rfl)
  have c__law_taken := k__law_taken (P := P) (w := w) (base := base) fs F23
  obtain ⟨fd24, F24⟩ := D.defs d__law_kind (List.mem_of_getElem? (i := 24) rfl)
  have c__law_kind := k__law_kind (P := P) (w := w) (base := base) fs c__law_taken F24
  obtain ⟨fd25, F25⟩ := D.defs d__law_rule (List.mem_of_getElem? (i := 25) rfl)
  have c__law_rule := k__law_rule (P := P) (w := w) (base := base) fs c__law_taken F25
  obtain ⟨fd26, F26⟩ := D.defs d__law_drawn (List.mem_of_getElem? (i := 26) rfl)
  have c__law_drawn := k__law_drawn (P := P) (w := w) (base := base) fs c__law_kind c__law_rule c__law_taken F26
  obtain ⟨fd27, F27⟩ := D.defs d__law_book (List.mem_of_getElem? (i := 27) rfl)
  have c__law_book := k__law_book (P := P) (w := w) (base := base) fs c_Book__init F27
  obtain ⟨fd28, F28⟩ := D.defs d__law_all_mends (List.mem_of_getElem? (i := 28) rfl)
  have c__law_all_mends := k__law_all_mends (P := P) (w := w) (base := base) fs F28
  obtain ⟨fd29, F29⟩ := D.defs d__law_due (List.mem_of_getElem? (i := 29) rfl)
  have c__law_due := k__law_due (P := P) (w := w) (base := base) fs c__law_all_mends F29
  obtain ⟨fd30, F30⟩ := D.defs d__law_told (List.mem_of_getElem? (i := 30) rfl)
  have c__law_told := k__law_told (P := P) (w := w) (base := base) fs c_Book__rules c_mended F30
  obtain ⟨fd31, F31⟩ := D.defs d_law (List.mem_of_getElem? (i := 31) rfl)
  have c_law := k_law (P := P) (w := w) (base := base) fs c_Book__len c__law_all_mends c__law_book c__law_drawn c__law_due c__law_taken c__law_told c_mends_of F31
  exact c_law
end Iv.T
end
section
set_option Elab.async false
set_option linter.all false
set_option maxRecDepth 100000
set_option maxHeartbeats 4000000
namespace Iv.T
open PySem PySem.Spec PyProof.Rows L2
/-! ### draws -/
def Row (ns : List Int) (xs : List W) : Prop := ∃ i m r : Int, xs = [.scr ns, .int i, .int m, .int r] ∧ 0 ≤ i
theorem mod_ok {i n : Int} (h : 0 < n) (st : Sto) : modR st (.w (.int i)) (.w (.int n)) = some (.w (.int (i % n))) := by
  show (if decide (0 < n) then _ else _) = _
  rw [decide_eq_true h]; rfl
theorem fdiv_ok {i n : Int} (h : 0 < n) (h1 : n < 1073741824) (st : Sto) : fdivR st (.w (.int i)) (.w (.int n)) = some (.w (.int (i / n))) := by
  show (if decide (0 < n) && decide (n < 1073741824) then _ else _) = _
  rw [decide_eq_true h, decide_eq_true h1]; rfl
theorem scr_at {ns : List Int} {j : Int} (h0 : 0 ≤ j) (h1 : j < ns.length) (st : Sto) : ∃ c, ixR2 st (.w (.scr ns)) (.w (.int j)) = some (.w (.int c)) := by
  have hj : j.toNat < ns.length := by omega
  refine ⟨ns[j.toNat], ?_⟩
  show ((atI ns j).map fun n => R.w (.int n)) = _
  unfold atI ixN
  rw [if_pos h0, if_pos h1]
  simp [hj]
theorem taken_run {ns : List Int} {xs : List W} (hx : Row ns xs) (n : Int) (h0 : 0 < n) (h1 : n < 1073741824) : Tot (f__law_taken [.loc 0, .w (.int n)]) [.lst xs] fun r st => ∃ v ys, 0 ≤ v ∧ v < n ∧ Row ns ys ∧ r = .w (.int v) ∧ st = [.lst ys] := by
  obtain ⟨i, m, r, rfl, hi⟩ := hx
  have hm : ∀ z : Int, 0 ≤ z % n ∧ z % n < n := fun z => ⟨Int.emod_nonneg z (by omega), Int.emod_lt_of_pos z h0⟩
  refine t_runB ?_
  unfold g__law_taken
  repeat (first
      | refine t_seq ?_ | refine t_sset ?_ | refine t_sret ?_ | refine t_sexpr ?_ | refine t_snil ?_ | refine t_sif ?_ | refine t_asg ?_ | refine t_msub ?_
      | refine t_eV rfl ?_ | refine t_eC ?_ | refine t_e2 ?_ | refine t_e1 ?_ | refine t_eA ?_ | refine t_nil ?_ | refine t_cons ?_ | refine t_tup ?_ | refine t_lst ?_ | refine t_lstC ?_ | refine t_par ?_
      | refine t_tV ?_ | refine t_not ?_ | refine t_and ?_ | refine t_or ?_ | refine t_if ?_ | refine t_eand ?_ | refine t_eor ?_ | refine t_enot ?_ | refine t_eM ?_ | refine t_chain ?_ | refine t_ono ?_ | refine t_osome ?_ | refine t_sl ?_ | refine t_rcd ?_ | refine t_dicC ?_ | refine t_fld ?_ | refine t_yes ?_ | refine t_mscons ?_ | refine t_msnil ?_ | refine t_raise ?_ | refine t_par3 ?_ | refine t_unp ?_
      | refine t_callP ⟨rfl, ?_⟩ | refine t_callP ?_ | refine ⟨rfl, ?_⟩
      | refine ⟨_, rfl, ?_⟩)
  refine ⟨fun h => ?_, fun h => ?_⟩
  · repeat (first
      | refine t_seq ?_ | refine t_sset ?_ | refine t_sret ?_ | refine t_sexpr ?_ | refine t_snil ?_ | refine t_sif ?_ | refine t_asg ?_ | refine t_msub ?_
      | refine t_eV rfl ?_ | refine t_eC ?_ | refine t_e2 ?_ | refine t_e1 ?_ | refine t_eA ?_ | refine t_nil ?_ | refine t_cons ?_ | refine t_tup ?_ | refine t_lst ?_ | refine t_lstC ?_ | refine t_par ?_
      | refine t_tV ?_ | refine t_not ?_ | refine t_and ?_ | refine t_or ?_ | refine t_if ?_ | refine t_eand ?_ | refine t_eor ?_ | refine t_enot ?_ | refine t_eM ?_ | refine t_chain ?_ | refine t_ono ?_ | refine t_osome ?_ | refine t_sl ?_ | refine t_rcd ?_ | refine t_dicC ?_ | refine t_fld ?_ | refine t_yes ?_ | refine t_mscons ?_ | refine t_msnil ?_ | refine t_raise ?_ | refine t_par3 ?_ | refine t_unp ?_
      | refine t_callP ⟨rfl, ?_⟩ | refine t_callP ?_ | refine ⟨rfl, ?_⟩
      | refine ⟨_, rfl, ?_⟩)
    refine ⟨_, mod_ok h0 _, ?_⟩
    repeat (first
        | refine t_seq ?_ | refine t_sset ?_ | refine t_sret ?_ | refine t_sexpr ?_ | refine t_snil ?_ | refine t_sif ?_ | refine t_asg ?_ | refine t_msub ?_
        | refine t_eV rfl ?_ | refine t_eC ?_ | refine t_e2 ?_ | refine t_e1 ?_ | refine t_eA ?_ | refine t_nil ?_ | refine t_cons ?_ | refine t_tup ?_ | refine t_lst ?_ | refine t_lstC ?_ | refine t_par ?_
        | refine t_tV ?_ | refine t_not ?_ | refine t_and ?_ | refine t_or ?_ | refine t_if ?_ | refine t_eand ?_ | refine t_eor ?_ | refine t_enot ?_ | refine t_eM ?_ | refine t_chain ?_ | refine t_ono ?_ | refine t_osome ?_ | refine t_sl ?_ | refine t_rcd ?_ | refine t_dicC ?_ | refine t_fld ?_ | refine t_yes ?_ | refine t_mscons ?_ | refine t_msnil ?_ | refine t_raise ?_ | refine t_par3 ?_ | refine t_unp ?_
        | refine t_callP ⟨rfl, ?_⟩ | refine t_callP ?_ | refine ⟨rfl, ?_⟩
        | refine ⟨_, rfl, ?_⟩)
    refine ⟨_, fdiv_ok h0 h1 _, ?_⟩
    repeat (first
        | refine t_seq ?_ | refine t_sset ?_ | refine t_sret ?_ | refine t_sexpr ?_ | refine t_snil ?_ | refine t_sif ?_ | refine t_asg ?_ | refine t_msub ?_
        | refine t_eV rfl ?_ | refine t_eC ?_ | refine t_e2 ?_ | refine t_e1 ?_ | refine t_eA ?_ | refine t_nil ?_ | refine t_cons ?_ | refine t_tup ?_ | refine t_lst ?_ | refine t_lstC ?_ | refine t_par ?_
        | refine t_tV ?_ | refine t_not ?_ | refine t_and ?_ | refine t_or ?_ | refine t_if ?_ | refine t_eand ?_ | refine t_eor ?_ | refine t_enot ?_ | refine t_eM ?_ | refine t_chain ?_ | refine t_ono ?_ | refine t_osome ?_ | refine t_sl ?_ | refine t_rcd ?_ | refine t_dicC ?_ | refine t_fld ?_ | refine t_yes ?_ | refine t_mscons ?_ | refine t_msnil ?_ | refine t_raise ?_ | refine t_par3 ?_ | refine t_unp ?_
        | refine t_callP ⟨rfl, ?_⟩ | refine t_callP ?_ | refine ⟨rfl, ?_⟩
        | refine ⟨_, rfl, ?_⟩)
    exact ⟨_, _, (hm _).1, (hm _).2, ⟨_, _, _, rfl, hi⟩, rfl, rfl⟩
  · repeat (first
      | refine t_seq ?_ | refine t_sset ?_ | refine t_sret ?_ | refine t_sexpr ?_ | refine t_snil ?_ | refine t_sif ?_ | refine t_asg ?_ | refine t_msub ?_
      | refine t_eV rfl ?_ | refine t_eC ?_ | refine t_e2 ?_ | refine t_e1 ?_ | refine t_eA ?_ | refine t_nil ?_ | refine t_cons ?_ | refine t_tup ?_ | refine t_lst ?_ | refine t_lstC ?_ | refine t_par ?_
      | refine t_tV ?_ | refine t_not ?_ | refine t_and ?_ | refine t_or ?_ | refine t_if ?_ | refine t_eand ?_ | refine t_eor ?_ | refine t_enot ?_ | refine t_eM ?_ | refine t_chain ?_ | refine t_ono ?_ | refine t_osome ?_ | refine t_sl ?_ | refine t_rcd ?_ | refine t_dicC ?_ | refine t_fld ?_ | refine t_yes ?_ | refine t_mscons ?_ | refine t_msnil ?_ | refine t_raise ?_ | refine t_par3 ?_ | refine t_unp ?_
      | refine t_callP ⟨rfl, ?_⟩ | refine t_callP ?_ | refine ⟨rfl, ?_⟩
      | refine ⟨_, rfl, ?_⟩)
    refine ⟨fun h2 => ?_, fun h2 => ?_⟩
    · repeat (first
        | refine t_seq ?_ | refine t_sset ?_ | refine t_sret ?_ | refine t_sexpr ?_ | refine t_snil ?_ | refine t_sif ?_ | refine t_asg ?_ | refine t_msub ?_
        | refine t_eV rfl ?_ | refine t_eC ?_ | refine t_e2 ?_ | refine t_e1 ?_ | refine t_eA ?_ | refine t_nil ?_ | refine t_cons ?_ | refine t_tup ?_ | refine t_lst ?_ | refine t_lstC ?_ | refine t_par ?_
        | refine t_tV ?_ | refine t_not ?_ | refine t_and ?_ | refine t_or ?_ | refine t_if ?_ | refine t_eand ?_ | refine t_eor ?_ | refine t_enot ?_ | refine t_eM ?_ | refine t_chain ?_ | refine t_ono ?_ | refine t_osome ?_ | refine t_sl ?_ | refine t_rcd ?_ | refine t_dicC ?_ | refine t_fld ?_ | refine t_yes ?_ | refine t_mscons ?_ | refine t_msnil ?_ | refine t_raise ?_ | refine t_par3 ?_ | refine t_unp ?_
        | refine t_callP ⟨rfl, ?_⟩ | refine t_callP ?_ | refine ⟨rfl, ?_⟩
        | refine ⟨_, rfl, ?_⟩)
      refine ⟨_, mod_ok h0 _, ?_⟩
      exact ⟨_, _, (hm _).1, (hm _).2, ⟨_, _, _, rfl, by omega⟩, rfl, rfl⟩
    · repeat (first
        | refine t_seq ?_ | refine t_sset ?_ | refine t_sret ?_ | refine t_sexpr ?_ | refine t_snil ?_ | refine t_sif ?_ | refine t_asg ?_ | refine t_msub ?_
        | refine t_eV rfl ?_ | refine t_eC ?_ | refine t_e2 ?_ | refine t_e1 ?_ | refine t_eA ?_ | refine t_nil ?_ | refine t_cons ?_ | refine t_tup ?_ | refine t_lst ?_ | refine t_lstC ?_ | refine t_par ?_
        | refine t_tV ?_ | refine t_not ?_ | refine t_and ?_ | refine t_or ?_ | refine t_if ?_ | refine t_eand ?_ | refine t_eor ?_ | refine t_enot ?_ | refine t_eM ?_ | refine t_chain ?_ | refine t_ono ?_ | refine t_osome ?_ | refine t_sl ?_ | refine t_rcd ?_ | refine t_dicC ?_ | refine t_fld ?_ | refine t_yes ?_ | refine t_mscons ?_ | refine t_msnil ?_ | refine t_raise ?_ | refine t_par3 ?_ | refine t_unp ?_
        | refine t_callP ⟨rfl, ?_⟩ | refine t_callP ?_ | refine ⟨rfl, ?_⟩
        | refine ⟨_, rfl, ?_⟩)
      have h3 : ¬ (ns.length : Int) < i + 1 := of_decide_eq_false h2
      obtain ⟨c, hc⟩ := scr_at (ns := ns) (j := i + 1 - 1) (by omega) (by omega) [.lst [.scr ns, .int (i + 1), .int m, .int r]]
      refine ⟨_, hc, ?_⟩
      repeat (first
          | refine t_seq ?_ | refine t_sset ?_ | refine t_sret ?_ | refine t_sexpr ?_ | refine t_snil ?_ | refine t_sif ?_ | refine t_asg ?_ | refine t_msub ?_
          | refine t_eV rfl ?_ | refine t_eC ?_ | refine t_e2 ?_ | refine t_e1 ?_ | refine t_eA ?_ | refine t_nil ?_ | refine t_cons ?_ | refine t_tup ?_ | refine t_lst ?_ | refine t_lstC ?_ | refine t_par ?_
          | refine t_tV ?_ | refine t_not ?_ | refine t_and ?_ | refine t_or ?_ | refine t_if ?_ | refine t_eand ?_ | refine t_eor ?_ | refine t_enot ?_ | refine t_eM ?_ | refine t_chain ?_ | refine t_ono ?_ | refine t_osome ?_ | refine t_sl ?_ | refine t_rcd ?_ | refine t_dicC ?_ | refine t_fld ?_ | refine t_yes ?_ | refine t_mscons ?_ | refine t_msnil ?_ | refine t_raise ?_ | refine t_par3 ?_ | refine t_unp ?_
          | refine t_callP ⟨rfl, ?_⟩ | refine t_callP ?_ | refine ⟨rfl, ?_⟩
          | refine ⟨_, rfl, ?_⟩)
      refine ⟨fun h4 => ?_, fun h4 => ?_⟩
      · repeat (first
          | refine t_seq ?_ | refine t_sset ?_ | refine t_sret ?_ | refine t_sexpr ?_ | refine t_snil ?_ | refine t_sif ?_ | refine t_asg ?_ | refine t_msub ?_
          | refine t_eV rfl ?_ | refine t_eC ?_ | refine t_e2 ?_ | refine t_e1 ?_ | refine t_eA ?_ | refine t_nil ?_ | refine t_cons ?_ | refine t_tup ?_ | refine t_lst ?_ | refine t_lstC ?_ | refine t_par ?_
          | refine t_tV ?_ | refine t_not ?_ | refine t_and ?_ | refine t_or ?_ | refine t_if ?_ | refine t_eand ?_ | refine t_eor ?_ | refine t_enot ?_ | refine t_eM ?_ | refine t_chain ?_ | refine t_ono ?_ | refine t_osome ?_ | refine t_sl ?_ | refine t_rcd ?_ | refine t_dicC ?_ | refine t_fld ?_ | refine t_yes ?_ | refine t_mscons ?_ | refine t_msnil ?_ | refine t_raise ?_ | refine t_par3 ?_ | refine t_unp ?_
          | refine t_callP ⟨rfl, ?_⟩ | refine t_callP ?_ | refine ⟨rfl, ?_⟩
          | refine ⟨_, rfl, ?_⟩)
        refine ⟨_, fdiv_ok h0 h1 _, ?_⟩
        repeat (first
            | refine t_seq ?_ | refine t_sset ?_ | refine t_sret ?_ | refine t_sexpr ?_ | refine t_snil ?_ | refine t_sif ?_ | refine t_asg ?_ | refine t_msub ?_
            | refine t_eV rfl ?_ | refine t_eC ?_ | refine t_e2 ?_ | refine t_e1 ?_ | refine t_eA ?_ | refine t_nil ?_ | refine t_cons ?_ | refine t_tup ?_ | refine t_lst ?_ | refine t_lstC ?_ | refine t_par ?_
            | refine t_tV ?_ | refine t_not ?_ | refine t_and ?_ | refine t_or ?_ | refine t_if ?_ | refine t_eand ?_ | refine t_eor ?_ | refine t_enot ?_ | refine t_eM ?_ | refine t_chain ?_ | refine t_ono ?_ | refine t_osome ?_ | refine t_sl ?_ | refine t_rcd ?_ | refine t_dicC ?_ | refine t_fld ?_ | refine t_yes ?_ | refine t_mscons ?_ | refine t_msnil ?_ | refine t_raise ?_ | refine t_par3 ?_ | refine t_unp ?_
            | refine t_callP ⟨rfl, ?_⟩ | refine t_callP ?_ | refine ⟨rfl, ?_⟩
            | refine ⟨_, rfl, ?_⟩)
        refine ⟨_, mod_ok h0 _, ?_⟩
        exact ⟨_, _, (hm _).1, (hm _).2, ⟨_, _, _, rfl, by omega⟩, rfl, rfl⟩
      · repeat (first
          | refine t_seq ?_ | refine t_sset ?_ | refine t_sret ?_ | refine t_sexpr ?_ | refine t_snil ?_ | refine t_sif ?_ | refine t_asg ?_ | refine t_msub ?_
          | refine t_eV rfl ?_ | refine t_eC ?_ | refine t_e2 ?_ | refine t_e1 ?_ | refine t_eA ?_ | refine t_nil ?_ | refine t_cons ?_ | refine t_tup ?_ | refine t_lst ?_ | refine t_lstC ?_ | refine t_par ?_
          | refine t_tV ?_ | refine t_not ?_ | refine t_and ?_ | refine t_or ?_ | refine t_if ?_ | refine t_eand ?_ | refine t_eor ?_ | refine t_enot ?_ | refine t_eM ?_ | refine t_chain ?_ | refine t_ono ?_ | refine t_osome ?_ | refine t_sl ?_ | refine t_rcd ?_ | refine t_dicC ?_ | refine t_fld ?_ | refine t_yes ?_ | refine t_mscons ?_ | refine t_msnil ?_ | refine t_raise ?_ | refine t_par3 ?_ | refine t_unp ?_
          | refine t_callP ⟨rfl, ?_⟩ | refine t_callP ?_ | refine ⟨rfl, ?_⟩
          | refine ⟨_, rfl, ?_⟩)
        refine ⟨_, mod_ok h0 _, ?_⟩
        exact ⟨_, _, (hm _).1, (hm _).2, ⟨_, _, _, rfl, by omega⟩, rfl, rfl⟩
/-- a draw -/
theorem t_taken {E : Exc → Sto → Prop} {ns : List Int} {xs : List W} {rest : Sto} {n : Int} {Q : R → Sto → Prop} (hx : Row ns xs) (h0 : 0 < n) (h1 : n < 1073741824) (h : ∀ v ys, 0 ≤ v → v < n → Row ns ys → Q (.w (.int v)) (.lst ys :: rest)) : Go E (callP f__law_taken [.loc 0, .w (.int n)]) (.lst xs :: rest) Q :=
  t_call rfl ((taken_run hx n h0 h1).imp2 (fun r st ⟨v, ys, a, b, c, e, e'⟩ => by subst e e'; exact ⟨ys, [], .int v, rfl, rfl, h v ys a b c⟩) fun _ _ z => z.elim)
end Iv.T
end
section
set_option Elab.async false
set_option linter.all false
set_option maxRecDepth 100000
set_option maxHeartbeats 4000000
namespace Iv.T
open PySem PySem.Spec PyProof.Rows L2
def kindW (g : Str) (u d : Int) (b : Bool) : W := .tup [.str g, .int u, .int d, .bl b]
def Kind (roles : List Str) (x : W) : Prop := ∃ g u d b, x = kindW g u d b ∧ g ∈ roles ∧ (0 ≤ u ∧ u < 3) ∧ (0 ≤ d ∧ d < 3)
def rolesW (roles : List Str) : W := .tup (roles.map W.str)
def rolesL : List (List Str) := [["a", "bb", "ccc"], ["guest", "keeper"], ["x"], ["in", "not", "late", "full"]]
theorem rolesL_len {roles : List Str} (h : roles ∈ rolesL) : 0 < roles.length ∧ roles.length ≤ 4 := by
  simp only [rolesL, List.mem_cons, List.not_mem_nil, or_false] at h
  rcases h with rfl | rfl | rfl | rfl <;> exact ⟨by decide, by decide⟩
theorem tup_at {xs : List W} {v : Int} (h0 : 0 ≤ v) (h1 : v < xs.length) (st : Sto) : ∃ x ∈ xs, ixR2 st (.w (.tup xs)) (.w (.int v)) = some (.w x) := by
  have hj : v.toNat < xs.length := by omega
  refine ⟨xs[v.toNat], List.getElem_mem hj, ?_⟩
  show ((atI xs v).map R.w) = _
  unfold atI ixN
  rw [if_pos h0, if_pos h1]
  simp [hj]
theorem lst_at {xs : List W} {v : Int} (h0 : 0 ≤ v) (h1 : v < xs.length) (st : Sto) : ∃ x ∈ xs, ixR2 st (.w (.lst xs)) (.w (.int v)) = some (.w x) := by
  have hj : v.toNat < xs.length := by omega
  refine ⟨xs[v.toNat], List.getElem_mem hj, ?_⟩
  show ((atI xs v).map R.w) = _
  unfold atI ixN
  rw [if_pos h0, if_pos h1]
  simp [hj]
theorem kind_run {ns : List Int} {xs : List W} {roles : List Str} (hx : Row ns xs) (hr : roles ∈ rolesL) : Tot (f__law_kind [.loc 0, .w (rolesW roles)]) [.lst xs] fun r st => ∃ x ys, Kind roles x ∧ Row ns ys ∧ r = .w x ∧ st = [.lst ys] := by
  obtain ⟨l0, l4⟩ := rolesL_len hr
  refine t_runB ?_
  unfold g__law_kind
  repeat (first
      | refine t_seq ?_ | refine t_sset ?_ | refine t_sret ?_ | refine t_sexpr ?_ | refine t_snil ?_ | refine t_sif ?_ | refine t_asg ?_ | refine t_msub ?_
      | refine t_eV rfl ?_ | refine t_eC ?_ | refine t_e2 ?_ | refine t_e1 ?_ | refine t_eA ?_ | refine t_nil ?_ | refine t_cons ?_ | refine t_tup ?_ | refine t_lst ?_ | refine t_lstC ?_ | refine t_par ?_
      | refine t_tV ?_ | refine t_not ?_ | refine t_and ?_ | refine t_or ?_ | refine t_if ?_ | refine t_eand ?_ | refine t_eor ?_ | refine t_enot ?_ | refine t_eM ?_ | refine t_chain ?_ | refine t_ono ?_ | refine t_osome ?_ | refine t_sl ?_ | refine t_rcd ?_ | refine t_dicC ?_ | refine t_fld ?_ | refine t_yes ?_ | refine t_mscons ?_ | refine t_msnil ?_ | refine t_raise ?_ | refine t_par3 ?_ | refine t_unp ?_
      | refine t_callP ⟨rfl, ?_⟩ | refine t_callP ?_ | refine ⟨rfl, ?_⟩ | refine br_t rfl ?_ | refine br_f rfl ?_
      | refine ⟨_, rfl, ?_⟩)
  refine t_taken (n := ((roles.map W.str).length : Int)) hx (by simp; omega) (by simp; omega) fun v ys a b hy => ?_
  obtain ⟨g, hg, e⟩ := tup_at (xs := roles.map W.str) a b [.lst ys]
  obtain ⟨g, hgr, rfl⟩ := List.mem_map.mp hg
  refine ⟨_, e, ?_⟩
  repeat (first
      | refine t_seq ?_ | refine t_sset ?_ | refine t_sret ?_ | refine t_sexpr ?_ | refine t_snil ?_ | refine t_sif ?_ | refine t_asg ?_ | refine t_msub ?_
      | refine t_eV rfl ?_ | refine t_eC ?_ | refine t_e2 ?_ | refine t_e1 ?_ | refine t_eA ?_ | refine t_nil ?_ | refine t_cons ?_ | refine t_tup ?_ | refine t_lst ?_ | refine t_lstC ?_ | refine t_par ?_
      | refine t_tV ?_ | refine t_not ?_ | refine t_and ?_ | refine t_or ?_ | refine t_if ?_ | refine t_eand ?_ | refine t_eor ?_ | refine t_enot ?_ | refine t_eM ?_ | refine t_chain ?_ | refine t_ono ?_ | refine t_osome ?_ | refine t_sl ?_ | refine t_rcd ?_ | refine t_dicC ?_ | refine t_fld ?_ | refine t_yes ?_ | refine t_mscons ?_ | refine t_msnil ?_ | refine t_raise ?_ | refine t_par3 ?_ | refine t_unp ?_
      | refine t_callP ⟨rfl, ?_⟩ | refine t_callP ?_ | refine ⟨rfl, ?_⟩ | refine br_t rfl ?_ | refine br_f rfl ?_
      | refine ⟨_, rfl, ?_⟩)
  refine t_taken hy (by decide) (by decide) fun u ys1 u0 u1 hy1 => ?_
  repeat (first
      | refine t_seq ?_ | refine t_sset ?_ | refine t_sret ?_ | refine t_sexpr ?_ | refine t_snil ?_ | refine t_sif ?_ | refine t_asg ?_ | refine t_msub ?_
      | refine t_eV rfl ?_ | refine t_eC ?_ | refine t_e2 ?_ | refine t_e1 ?_ | refine t_eA ?_ | refine t_nil ?_ | refine t_cons ?_ | refine t_tup ?_ | refine t_lst ?_ | refine t_lstC ?_ | refine t_par ?_
      | refine t_tV ?_ | refine t_not ?_ | refine t_and ?_ | refine t_or ?_ | refine t_if ?_ | refine t_eand ?_ | refine t_eor ?_ | refine t_enot ?_ | refine t_eM ?_ | refine t_chain ?_ | refine t_ono ?_ | refine t_osome ?_ | refine t_sl ?_ | refine t_rcd ?_ | refine t_dicC ?_ | refine t_fld ?_ | refine t_yes ?_ | refine t_mscons ?_ | refine t_msnil ?_ | refine t_raise ?_ | refine t_par3 ?_ | refine t_unp ?_
      | refine t_callP ⟨rfl, ?_⟩ | refine t_callP ?_ | refine ⟨rfl, ?_⟩ | refine br_t rfl ?_ | refine br_f rfl ?_
      | refine ⟨_, rfl, ?_⟩)
  refine t_taken hy1 (by decide) (by decide) fun d ys2 d0 d1 hy2 => ?_
  repeat (first
      | refine t_seq ?_ | refine t_sset ?_ | refine t_sret ?_ | refine t_sexpr ?_ | refine t_snil ?_ | refine t_sif ?_ | refine t_asg ?_ | refine t_msub ?_
      | refine t_eV rfl ?_ | refine t_eC ?_ | refine t_e2 ?_ | refine t_e1 ?_ | refine t_eA ?_ | refine t_nil ?_ | refine t_cons ?_ | refine t_tup ?_ | refine t_lst ?_ | refine t_lstC ?_ | refine t_par ?_
      | refine t_tV ?_ | refine t_not ?_ | refine t_and ?_ | refine t_or ?_ | refine t_if ?_ | refine t_eand ?_ | refine t_eor ?_ | refine t_enot ?_ | refine t_eM ?_ | refine t_chain ?_ | refine t_ono ?_ | refine t_osome ?_ | refine t_sl ?_ | refine t_rcd ?_ | refine t_dicC ?_ | refine t_fld ?_ | refine t_yes ?_ | refine t_mscons ?_ | refine t_msnil ?_ | refine t_raise ?_ | refine t_par3 ?_ | refine t_unp ?_
      | refine t_callP ⟨rfl, ?_⟩ | refine t_callP ?_ | refine ⟨rfl, ?_⟩ | refine br_t rfl ?_ | refine br_f rfl ?_
      | refine ⟨_, rfl, ?_⟩)
  refine t_taken hy2 (by decide) (by decide) fun z ys3 z0 z1 hy3 => ?_
  repeat (first
      | refine t_seq ?_ | refine t_sset ?_ | refine t_sret ?_ | refine t_sexpr ?_ | refine t_snil ?_ | refine t_sif ?_ | refine t_asg ?_ | refine t_msub ?_
      | refine t_eV rfl ?_ | refine t_eC ?_ | refine t_e2 ?_ | refine t_e1 ?_ | refine t_eA ?_ | refine t_nil ?_ | refine t_cons ?_ | refine t_tup ?_ | refine t_lst ?_ | refine t_lstC ?_ | refine t_par ?_
      | refine t_tV ?_ | refine t_not ?_ | refine t_and ?_ | refine t_or ?_ | refine t_if ?_ | refine t_eand ?_ | refine t_eor ?_ | refine t_enot ?_ | refine t_eM ?_ | refine t_chain ?_ | refine t_ono ?_ | refine t_osome ?_ | refine t_sl ?_ | refine t_rcd ?_ | refine t_dicC ?_ | refine t_fld ?_ | refine t_yes ?_ | refine t_mscons ?_ | refine t_msnil ?_ | refine t_raise ?_ | refine t_par3 ?_ | refine t_unp ?_
      | refine t_callP ⟨rfl, ?_⟩ | refine t_callP ?_ | refine ⟨rfl, ?_⟩ | refine br_t rfl ?_ | refine br_f rfl ?_
      | refine ⟨_, rfl, ?_⟩)
  exact ⟨_, _, ⟨g, u, d, _, rfl, hgr, ⟨u0, u1⟩, ⟨d0, d1⟩⟩, hy3, rfl, rfl⟩
theorem t_kind {E : Exc → Sto → Prop} {ns : List Int} {xs : List W} {rest : Sto} {roles : List Str} {Q : R → Sto → Prop} (hx : Row ns xs) (hr : roles ∈ rolesL) (h : ∀ x ys, Kind roles x → Row ns ys → Q (.w x) (.lst ys :: rest)) : Go E (callP f__law_kind [.loc 0, .w (rolesW roles)]) (.lst xs :: rest) Q :=
  t_call rfl ((kind_run hx hr).imp2 (fun r st ⟨x, ys, a, b, e, e'⟩ => by subst e e'; exact ⟨ys, [], x, rfl, rfl, h x ys a b⟩) fun _ _ z => z.elim)
/-! ### rules -/
def wordsL : List Str := ["closed", "in", "late", "low", "other", "poor", "spent", "taken"]
def answersL : List Str := ["refuse", "full", "least"]
def testW (t : Str × Bool) : W := .tup [.str t.1, .bl t.2]
def ruleW (ts : List (Str × Bool)) (a : Str) : W := .tup [.tup (ts.map testW), .str a]
structure Rule (ts : List (Str × Bool)) (a : Str) : Prop where
  sub : (ts.map (·.1)).Sublist wordsL
  len : ts.length ≤ 2
  ans : a ∈ answersL
theorem rule_run {ns : List Int} {xs : List W} (hx : Row ns xs) : Tot (f__law_rule [.loc 0]) [.lst xs] fun r st => ∃ ts a ys more, Rule ts a ∧ Row ns ys ∧ r = .w (ruleW ts a) ∧ st = .lst ys :: more := by
  refine t_runB ?_
  unfold g__law_rule
  repeat (first
      | refine t_seq ?_ | refine t_sset ?_ | refine t_sret ?_ | refine t_sexpr ?_ | refine t_snil ?_ | refine t_sif ?_ | refine t_asg ?_ | refine t_msub ?_
      | refine t_eV rfl ?_ | refine t_eC ?_ | refine t_e2 ?_ | refine t_e1 ?_ | refine t_eA ?_ | refine t_nil ?_ | refine t_cons ?_ | refine t_tup ?_ | refine t_lst ?_ | refine t_lstC ?_ | refine t_par ?_
      | refine t_tV ?_ | refine t_not ?_ | refine t_and ?_ | refine t_or ?_ | refine t_if ?_ | refine t_eand ?_ | refine t_eor ?_ | refine t_enot ?_ | refine t_eM ?_ | refine t_chain ?_ | refine t_ono ?_ | refine t_osome ?_ | refine t_sl ?_ | refine t_rcd ?_ | refine t_dicC ?_ | refine t_fld ?_ | refine t_yes ?_ | refine t_mscons ?_ | refine t_msnil ?_ | refine t_raise ?_ | refine t_par3 ?_ | refine t_unp ?_
      | refine t_callP ⟨rfl, ?_⟩ | refine t_callP ?_ | refine ⟨rfl, ?_⟩ | refine br_t rfl ?_ | refine br_f rfl ?_
      | refine ⟨_, rfl, ?_⟩)
  refine t_taken hx (by decide) (by decide) fun v ys a b hy => ?_
  obtain ⟨m, hm, e⟩ := lst_at (xs := [.int 1, .int 1, .int 1, .int 2, .int 2, .int 0]) a b [.lst ys, .lst []]
  refine ⟨_, e, ?_⟩
  have hm2 : ∃ k : Int, m = .int k ∧ k ≤ 2 := by
    simp only [List.mem_cons, List.not_mem_nil, or_false] at hm
    rcases hm with rfl | rfl | rfl | rfl | rfl | rfl <;> exact ⟨_, rfl, by decide⟩
  obtain ⟨k, rfl, hk⟩ := hm2
  repeat (first
      | refine t_seq ?_ | refine t_sset ?_ | refine t_sret ?_ | refine t_sexpr ?_ | refine t_snil ?_ | refine t_sif ?_ | refine t_asg ?_ | refine t_msub ?_
      | refine t_eV rfl ?_ | refine t_eC ?_ | refine t_e2 ?_ | refine t_e1 ?_ | refine t_eA ?_ | refine t_nil ?_ | refine t_cons ?_ | refine t_tup ?_ | refine t_lst ?_ | refine t_lstC ?_ | refine t_par ?_
      | refine t_tV ?_ | refine t_not ?_ | refine t_and ?_ | refine t_or ?_ | refine t_if ?_ | refine t_eand ?_ | refine t_eor ?_ | refine t_enot ?_ | refine t_eM ?_ | refine t_chain ?_ | refine t_ono ?_ | refine t_osome ?_ | refine t_sl ?_ | refine t_rcd ?_ | refine t_dicC ?_ | refine t_fld ?_ | refine t_yes ?_ | refine t_mscons ?_ | refine t_msnil ?_ | refine t_raise ?_ | refine t_par3 ?_ | refine t_unp ?_
      | refine t_callP ⟨rfl, ?_⟩ | refine t_callP ?_ | refine ⟨rfl, ?_⟩ | refine br_t rfl ?_ | refine br_f rfl ?_
      | refine ⟨_, rfl, ?_⟩)
  refine ⟨_, _, rfl, ?_⟩
  repeat (first
      | refine t_seq ?_ | refine t_sset ?_ | refine t_sret ?_ | refine t_sexpr ?_ | refine t_snil ?_ | refine t_sif ?_ | refine t_asg ?_ | refine t_msub ?_
      | refine t_eV rfl ?_ | refine t_eC ?_ | refine t_e2 ?_ | refine t_e1 ?_ | refine t_eA ?_ | refine t_nil ?_ | refine t_cons ?_ | refine t_tup ?_ | refine t_lst ?_ | refine t_lstC ?_ | refine t_par ?_
      | refine t_tV ?_ | refine t_not ?_ | refine t_and ?_ | refine t_or ?_ | refine t_if ?_ | refine t_eand ?_ | refine t_eor ?_ | refine t_enot ?_ | refine t_eM ?_ | refine t_chain ?_ | refine t_ono ?_ | refine t_osome ?_ | refine t_sl ?_ | refine t_rcd ?_ | refine t_dicC ?_ | refine t_fld ?_ | refine t_yes ?_ | refine t_mscons ?_ | refine t_msnil ?_ | refine t_raise ?_ | refine t_par3 ?_ | refine t_unp ?_
      | refine t_callP ⟨rfl, ?_⟩ | refine t_callP ?_ | refine ⟨rfl, ?_⟩ | refine br_t rfl ?_ | refine br_f rfl ?_
      | refine ⟨_, rfl, ?_⟩)
  refine t_sfor (t_itA_lst (xs := wordsL.map W.str) (t_eV rfl ⟨rfl, fun it ov => ⟨_, ov, fun i ρ st => ∃ ts ys x, i ≤ 8 ∧ Row ns ys ∧ ρ = [some (.loc 0), some (.w (.lst (wordsL.map W.str))), x, some (.loc 1), some (.w (.int k))] ∧ st = [.lst ys, .lst (ts.map testW)] ∧ (ts.map (·.1)).Sublist (wordsL.take i) ∧ ts.length ≤ 2,
    ⟨[], ys, none, by decide, hy, rfl, rfl, .slnil, by decide⟩, fun i x ρ st ex hI => ?_, fun ρ st hI => ?_⟩⟩))
  · obtain ⟨ts, ys1, x1, hi, hy1, rfl, rfl, hs, hl⟩ := hI
    obtain ⟨wd, ew, rfl⟩ : ∃ wd, wordsL[i]? = some wd ∧ x = .str wd := by
      rw [List.getElem?_map] at ex
      obtain ⟨wd, e1, e2⟩ := Option.map_eq_some_iff.mp ex
      exact ⟨wd, e1, e2.symm⟩
    have hi8 : i < 8 := (List.getElem?_eq_some_iff.mp ew).1
    have tk : wordsL.take (i + 1) = wordsL.take i ++ [wd] := by rw [List.take_succ, ew]; rfl
    have keep : (ts.map (·.1)).Sublist (wordsL.take (i + 1)) := by rw [tk]; exact hs.trans (List.sublist_append_left _ _)
    refine ⟨_, rfl, ?_⟩
    repeat (first
        | refine t_seq ?_ | refine t_sset ?_ | refine t_sret ?_ | refine t_sexpr ?_ | refine t_snil ?_ | refine t_sif ?_ | refine t_asg ?_ | refine t_msub ?_
        | refine t_eV rfl ?_ | refine t_eC ?_ | refine t_e2 ?_ | refine t_e1 ?_ | refine t_eA ?_ | refine t_nil ?_ | refine t_cons ?_ | refine t_tup ?_ | refine t_lst ?_ | refine t_lstC ?_ | refine t_par ?_
        | refine t_tV ?_ | refine t_not ?_ | refine t_and ?_ | refine t_or ?_ | refine t_if ?_ | refine t_eand ?_ | refine t_eor ?_ | refine t_enot ?_ | refine t_eM ?_ | refine t_chain ?_ | refine t_ono ?_ | refine t_osome ?_ | refine t_sl ?_ | refine t_rcd ?_ | refine t_dicC ?_ | refine t_fld ?_ | refine t_yes ?_ | refine t_mscons ?_ | refine t_msnil ?_ | refine t_raise ?_ | refine t_par3 ?_ | refine t_unp ?_
        | refine t_callP ⟨rfl, ?_⟩ | refine t_callP ?_ | refine ⟨rfl, ?_⟩ | refine br_t rfl ?_ | refine br_f rfl ?_
        | refine ⟨_, rfl, ?_⟩)
    refine ⟨fun hlt => ?_, fun _ => ?_⟩
    · repeat (first
        | refine t_seq ?_ | refine t_sset ?_ | refine t_sret ?_ | refine t_sexpr ?_ | refine t_snil ?_ | refine t_sif ?_ | refine t_asg ?_ | refine t_msub ?_
        | refine t_eV rfl ?_ | refine t_eC ?_ | refine t_e2 ?_ | refine t_e1 ?_ | refine t_eA ?_ | refine t_nil ?_ | refine t_cons ?_ | refine t_tup ?_ | refine t_lst ?_ | refine t_lstC ?_ | refine t_par ?_
        | refine t_tV ?_ | refine t_not ?_ | refine t_and ?_ | refine t_or ?_ | refine t_if ?_ | refine t_eand ?_ | refine t_eor ?_ | refine t_enot ?_ | refine t_eM ?_ | refine t_chain ?_ | refine t_ono ?_ | refine t_osome ?_ | refine t_sl ?_ | refine t_rcd ?_ | refine t_dicC ?_ | refine t_fld ?_ | refine t_yes ?_ | refine t_mscons ?_ | refine t_msnil ?_ | refine t_raise ?_ | refine t_par3 ?_ | refine t_unp ?_
        | refine t_callP ⟨rfl, ?_⟩ | refine t_callP ?_ | refine ⟨rfl, ?_⟩ | refine br_t rfl ?_ | refine br_f rfl ?_
        | refine ⟨_, rfl, ?_⟩)
      refine t_taken hy1 (by decide) (by decide) fun v1 ys2 _ _ hy2 => ?_
      repeat (first
          | refine t_seq ?_ | refine t_sset ?_ | refine t_sret ?_ | refine t_sexpr ?_ | refine t_snil ?_ | refine t_sif ?_ | refine t_asg ?_ | refine t_msub ?_
          | refine t_eV rfl ?_ | refine t_eC ?_ | refine t_e2 ?_ | refine t_e1 ?_ | refine t_eA ?_ | refine t_nil ?_ | refine t_cons ?_ | refine t_tup ?_ | refine t_lst ?_ | refine t_lstC ?_ | refine t_par ?_
          | refine t_tV ?_ | refine t_not ?_ | refine t_and ?_ | refine t_or ?_ | refine t_if ?_ | refine t_eand ?_ | refine t_eor ?_ | refine t_enot ?_ | refine t_eM ?_ | refine t_chain ?_ | refine t_ono ?_ | refine t_osome ?_ | refine t_sl ?_ | refine t_rcd ?_ | refine t_dicC ?_ | refine t_fld ?_ | refine t_yes ?_ | refine t_mscons ?_ | refine t_msnil ?_ | refine t_raise ?_ | refine t_par3 ?_ | refine t_unp ?_
          | refine t_callP ⟨rfl, ?_⟩ | refine t_callP ?_ | refine ⟨rfl, ?_⟩ | refine br_t rfl ?_ | refine br_f rfl ?_
          | refine ⟨_, rfl, ?_⟩)
      refine ⟨fun _ => ?_, fun _ => ?_⟩
      · repeat (first
          | refine t_seq ?_ | refine t_sset ?_ | refine t_sret ?_ | refine t_sexpr ?_ | refine t_snil ?_ | refine t_sif ?_ | refine t_asg ?_ | refine t_msub ?_
          | refine t_eV rfl ?_ | refine t_eC ?_ | refine t_e2 ?_ | refine t_e1 ?_ | refine t_eA ?_ | refine t_nil ?_ | refine t_cons ?_ | refine t_tup ?_ | refine t_lst ?_ | refine t_lstC ?_ | refine t_par ?_
          | refine t_tV ?_ | refine t_not ?_ | refine t_and ?_ | refine t_or ?_ | refine t_if ?_ | refine t_eand ?_ | refine t_eor ?_ | refine t_enot ?_ | refine t_eM ?_ | refine t_chain ?_ | refine t_ono ?_ | refine t_osome ?_ | refine t_sl ?_ | refine t_rcd ?_ | refine t_dicC ?_ | refine t_fld ?_ | refine t_yes ?_ | refine t_mscons ?_ | refine t_msnil ?_ | refine t_raise ?_ | refine t_par3 ?_ | refine t_unp ?_
          | refine t_callP ⟨rfl, ?_⟩ | refine t_callP ?_ | refine ⟨rfl, ?_⟩ | refine br_t rfl ?_ | refine br_f rfl ?_
          | refine ⟨_, rfl, ?_⟩)
        refine t_taken hy2 (by decide) (by decide) fun v2 ys3 _ _ hy3 => ?_
        repeat (first
            | refine t_seq ?_ | refine t_sset ?_ | refine t_sret ?_ | refine t_sexpr ?_ | refine t_snil ?_ | refine t_sif ?_ | refine t_asg ?_ | refine t_msub ?_
            | refine t_eV rfl ?_ | refine t_eC ?_ | refine t_e2 ?_ | refine t_e1 ?_ | refine t_eA ?_ | refine t_nil ?_ | refine t_cons ?_ | refine t_tup ?_ | refine t_lst ?_ | refine t_lstC ?_ | refine t_par ?_
            | refine t_tV ?_ | refine t_not ?_ | refine t_and ?_ | refine t_or ?_ | refine t_if ?_ | refine t_eand ?_ | refine t_eor ?_ | refine t_enot ?_ | refine t_eM ?_ | refine t_chain ?_ | refine t_ono ?_ | refine t_osome ?_ | refine t_sl ?_ | refine t_rcd ?_ | refine t_dicC ?_ | refine t_fld ?_ | refine t_yes ?_ | refine t_mscons ?_ | refine t_msnil ?_ | refine t_raise ?_ | refine t_par3 ?_ | refine t_unp ?_
            | refine t_callP ⟨rfl, ?_⟩ | refine t_callP ?_ | refine ⟨rfl, ?_⟩ | refine br_t rfl ?_ | refine br_f rfl ?_
            | refine ⟨_, rfl, ?_⟩)
        have hlt' : (ts.length : Int) < k := by
          have := of_decide_eq_true hlt
          simpa using this
        have hf : fits ((ts.map testW).length + 1) = true := by unfold fits; simp; omega
        refine ⟨.w .non, [.lst ys3, .lst ((ts ++ [(wd, decide (0 < v2))]).map testW)], ?_, ?_⟩
        · show (if fits ((ts.map testW).length + 1) = true then _ else _) = _
          rw [if_pos hf]
          simp [testW]
        · exact ⟨ts ++ [(wd, decide (0 < v2))], ys3, _, by omega, hy3, rfl, rfl, by rw [tk, List.map_append]; exact hs.append (List.Sublist.refl _), by simp; omega⟩
      · repeat (first
          | refine t_seq ?_ | refine t_sset ?_ | refine t_sret ?_ | refine t_sexpr ?_ | refine t_snil ?_ | refine t_sif ?_ | refine t_asg ?_ | refine t_msub ?_
          | refine t_eV rfl ?_ | refine t_eC ?_ | refine t_e2 ?_ | refine t_e1 ?_ | refine t_eA ?_ | refine t_nil ?_ | refine t_cons ?_ | refine t_tup ?_ | refine t_lst ?_ | refine t_lstC ?_ | refine t_par ?_
          | refine t_tV ?_ | refine t_not ?_ | refine t_and ?_ | refine t_or ?_ | refine t_if ?_ | refine t_eand ?_ | refine t_eor ?_ | refine t_enot ?_ | refine t_eM ?_ | refine t_chain ?_ | refine t_ono ?_ | refine t_osome ?_ | refine t_sl ?_ | refine t_rcd ?_ | refine t_dicC ?_ | refine t_fld ?_ | refine t_yes ?_ | refine t_mscons ?_ | refine t_msnil ?_ | refine t_raise ?_ | refine t_par3 ?_ | refine t_unp ?_
          | refine t_callP ⟨rfl, ?_⟩ | refine t_callP ?_ | refine ⟨rfl, ?_⟩ | refine br_t rfl ?_ | refine br_f rfl ?_
          | refine ⟨_, rfl, ?_⟩)
        exact ⟨ts, ys2, _, by omega, hy2, rfl, rfl, keep, hl⟩
    · repeat (first
        | refine t_seq ?_ | refine t_sset ?_ | refine t_sret ?_ | refine t_sexpr ?_ | refine t_snil ?_ | refine t_sif ?_ | refine t_asg ?_ | refine t_msub ?_
        | refine t_eV rfl ?_ | refine t_eC ?_ | refine t_e2 ?_ | refine t_e1 ?_ | refine t_eA ?_ | refine t_nil ?_ | refine t_cons ?_ | refine t_tup ?_ | refine t_lst ?_ | refine t_lstC ?_ | refine t_par ?_
        | refine t_tV ?_ | refine t_not ?_ | refine t_and ?_ | refine t_or ?_ | refine t_if ?_ | refine t_eand ?_ | refine t_eor ?_ | refine t_enot ?_ | refine t_eM ?_ | refine t_chain ?_ | refine t_ono ?_ | refine t_osome ?_ | refine t_sl ?_ | refine t_rcd ?_ | refine t_dicC ?_ | refine t_fld ?_ | refine t_yes ?_ | refine t_mscons ?_ | refine t_msnil ?_ | refine t_raise ?_ | refine t_par3 ?_ | refine t_unp ?_
        | refine t_callP ⟨rfl, ?_⟩ | refine t_callP ?_ | refine ⟨rfl, ?_⟩ | refine br_t rfl ?_ | refine br_f rfl ?_
        | refine ⟨_, rfl, ?_⟩)
      exact ⟨ts, ys1, _, by omega, hy1, rfl, rfl, keep, hl⟩
  · obtain ⟨ts, ys1, x1, hi, hy1, rfl, rfl, hs, hl⟩ := hI
    repeat (first
        | refine t_seq ?_ | refine t_sset ?_ | refine t_sret ?_ | refine t_sexpr ?_ | refine t_snil ?_ | refine t_sif ?_ | refine t_asg ?_ | refine t_msub ?_
        | refine t_eV rfl ?_ | refine t_eC ?_ | refine t_e2 ?_ | refine t_e1 ?_ | refine t_eA ?_ | refine t_nil ?_ | refine t_cons ?_ | refine t_tup ?_ | refine t_lst ?_ | refine t_lstC ?_ | refine t_par ?_
        | refine t_tV ?_ | refine t_not ?_ | refine t_and ?_ | refine t_or ?_ | refine t_if ?_ | refine t_eand ?_ | refine t_eor ?_ | refine t_enot ?_ | refine t_eM ?_ | refine t_chain ?_ | refine t_ono ?_ | refine t_osome ?_ | refine t_sl ?_ | refine t_rcd ?_ | refine t_dicC ?_ | refine t_fld ?_ | refine t_yes ?_ | refine t_mscons ?_ | refine t_msnil ?_ | refine t_raise ?_ | refine t_par3 ?_ | refine t_unp ?_
        | refine t_callP ⟨rfl, ?_⟩ | refine t_callP ?_ | refine ⟨rfl, ?_⟩ | refine br_t rfl ?_ | refine br_f rfl ?_
        | refine ⟨_, rfl, ?_⟩)
    refine t_taken hy1 (by decide) (by decide) fun v1 ys2 a1 b1 hy2 => ?_
    obtain ⟨an, ha, e1⟩ := lst_at (xs := [.str "refuse", .str "refuse", .str "full", .str "least"]) a1 b1 [.lst ys2, .lst (ts.map testW)]
    refine ⟨_, e1, ?_⟩
    have ha2 : ∃ s : Str, an = .str s ∧ s ∈ answersL := by
      simp only [List.mem_cons, List.not_mem_nil, or_false] at ha
      rcases ha with rfl | rfl | rfl | rfl <;> exact ⟨_, rfl, by simp [answersL]⟩
    obtain ⟨s, rfl, hs2⟩ := ha2
    repeat (first
        | refine t_seq ?_ | refine t_sset ?_ | refine t_sret ?_ | refine t_sexpr ?_ | refine t_snil ?_ | refine t_sif ?_ | refine t_asg ?_ | refine t_msub ?_
        | refine t_eV rfl ?_ | refine t_eC ?_ | refine t_e2 ?_ | refine t_e1 ?_ | refine t_eA ?_ | refine t_nil ?_ | refine t_cons ?_ | refine t_tup ?_ | refine t_lst ?_ | refine t_lstC ?_ | refine t_par ?_
        | refine t_tV ?_ | refine t_not ?_ | refine t_and ?_ | refine t_or ?_ | refine t_if ?_ | refine t_eand ?_ | refine t_eor ?_ | refine t_enot ?_ | refine t_eM ?_ | refine t_chain ?_ | refine t_ono ?_ | refine t_osome ?_ | refine t_sl ?_ | refine t_rcd ?_ | refine t_dicC ?_ | refine t_fld ?_ | refine t_yes ?_ | refine t_mscons ?_ | refine t_msnil ?_ | refine t_raise ?_ | refine t_par3 ?_ | refine t_unp ?_
        | refine t_callP ⟨rfl, ?_⟩ | refine t_callP ?_ | refine ⟨rfl, ?_⟩ | refine br_t rfl ?_ | refine br_f rfl ?_
        | refine ⟨_, rfl, ?_⟩)
    exact ⟨ts, s, ys2, _, ⟨by simpa [wordsL] using hs, hl, hs2⟩, hy2, rfl, rfl⟩
theorem t_rule {E : Exc → Sto → Prop} {ns : List Int} {xs : List W} {rest : Sto} {Q : R → Sto → Prop} (hx : Row ns xs) (h : ∀ ts a ys, Rule ts a → Row ns ys → Q (.w (ruleW ts a)) (.lst ys :: rest)) : Go E (callP f__law_rule [.loc 0]) (.lst xs :: rest) Q :=
  t_call rfl ((rule_run hx).imp2 (fun r st ⟨ts, a, ys, more, hr, b, e, e'⟩ => by subst e e'; exact ⟨ys, more, _, rfl, rfl, h ts a ys hr b⟩) fun _ _ z => z.elim)
end Iv.T
end
section
set_option Elab.async false
set_option linter.all false
set_option maxRecDepth 100000
set_option maxHeartbeats 4000000
namespace Iv.T
open PySem PySem.Spec PyProof.Rows L2
/-! ### drawn books -/
theorem rolesL_ok {roles : List Str} (h : roles ∈ rolesL) : (∀ g ∈ roles, PyData.strOk g = true) ∧ roles.Nodup := by
  simp only [rolesL, List.mem_cons, List.not_mem_nil, or_false] at h
  rcases h with rfl | rfl | rfl | rfl <;> exact ⟨by decide +kernel, by decide +kernel⟩
theorem kind_pl {roles : List Str} {x : W} (hr : roles ∈ rolesL) (h : Kind roles x) (n : Nat) : x.pl (n + 2) = true := by
  obtain ⟨g, u, d, b, rfl, hg, _, _⟩ := h
  have := (rolesL_ok hr).1 g hg
  simp [kindW, W.pl, this]
theorem ne_kind {roles : List Str} {x y : W} (hr : roles ∈ rolesL) (hx : Kind roles x) (hy : Kind roles y) (st : Sto) : neR st (.w x) (.w y) = some (.w (.bl (!W.eqv x y))) := by
  have h1 := kind_pl hr hx 14
  have h2 := kind_pl hr hy 14
  obtain ⟨g, u, d, b, rfl, _⟩ := hx
  obtain ⟨g', u', d', b', rfl, _⟩ := hy
  show ((if (kindW g u d b).pl 16 && (kindW g' u' d' b').pl 16 then some (W.eqv (kindW g u d b) (kindW g' u' d' b')) else none).map fun k => R.w (.bl (!k))) = _
  rw [h1, h2]; rfl
theorem last_at {roles : List Str} (hr : roles ∈ rolesL) (st : Sto) : ∃ l, ixR2 st (.w (.tup (roles.map W.str))) (.w (.int (-1))) = some (.w (.str l)) := by
  simp only [rolesL, List.mem_cons, List.not_mem_nil, or_false] at hr
  rcases hr with rfl | rfl | rfl | rfl <;> exact ⟨_, rfl⟩
def Kinds (roles : List Str) (ks : List W) : Prop := (∃ k, ks = [k] ∧ Kind roles k) ∨ ∃ k1 k2, ks = [k1, k2] ∧ Kind roles k1 ∧ Kind roles k2 ∧ W.eqv k2 k1 = false
def gsW (gs : List (Str × List W)) : List (W × W) := gs.map fun p => (.str p.1, .tup p.2)
theorem putD_new {gs : List (Str × List W)} {role : Str} {v : W} (h : role ∉ gs.map (·.1)) : putD (gsW gs) (.str role) v = gsW gs ++ [(.str role, v)] := by
  unfold putD
  rw [if_neg]
  simp only [gsW, List.any_map, List.any_eq_true, Function.comp, not_exists, not_and]
  intro p hp e
  exact h (List.mem_map.mpr ⟨p, hp, of_decide_eq_true e⟩)
abbrev drawnTail : Iv.Env → SM := (sSeq (sSet 5 (eLc [6] (itR (eV 4)) (gN 6) tYes (eCallP 2 f__law_kind (aCons (eV 0) (aCons (eV 1) aNil))))) (sAsg (eA tupleR (aCons (e2 addR (eSl (eV 5) oNo (oSome (eC (.int 1)))) (eLc [7] (itA (eSl (eV 5) (oSome (eC (.int 1))) oNo)) (gN 7) (tV (e2 neR (eV 7) (e2 ixR2 (eV 5) (eC (.int 0))))) (eV 7))) aNil)) (mSub (e2 ixR2 (eV 2) (eC (.str "grants"))) (eV 3))))
theorem tail_ok {E : Exc → Sto → Prop} {ns : List Int} {ys : List W} {roles : List Str} {m : Nat} {role : Str} {gs : List (Str × List W)} {x5 : Option R} {QS : Fl × Iv.Env → Sto → Prop} (hr : roles ∈ rolesL) (hy : Row ns ys) (hm : m = 1 ∨ m = 2) (hn : role ∉ gs.map (·.1)) (hl : gs.length ≤ 4)
    (h : ∀ ks ys' x5', Kinds roles ks → Row ns ys' → QS (.nx, [some (.loc 0), some (.w (rolesW roles)), some (.loc 2), some (.w (.str role)), some (.w (.int m)), x5', none, none]) [.lst ys', .dic false (gsW (gs ++ [(role, ks)])), .rcd [("roles", .w (rolesW roles)), ("grants", .loc 1)]]) :
    Go E (drawnTail [some (.loc 0), some (.w (rolesW roles)), some (.loc 2), some (.w (.str role)), some (.w (.int m)), x5, none, none]) [.lst ys, .dic false (gsW gs), .rcd [("roles", .w (rolesW roles)), ("grants", .loc 1)]] QS := by
  unfold drawnTail
  repeat (first
      | refine t_seq ?_ | refine t_sset ?_ | refine t_sret ?_ | refine t_sexpr ?_ | refine t_snil ?_ | refine t_sif ?_ | refine t_asg ?_ | refine t_msub ?_
      | refine t_eV rfl ?_ | refine t_eC ?_ | refine t_e2 ?_ | refine t_e1 ?_ | refine t_eA ?_ | refine t_nil ?_ | refine t_cons ?_ | refine t_tup ?_ | refine t_lst ?_ | refine t_lstC ?_ | refine t_par ?_
      | refine t_tV ?_ | refine t_not ?_ | refine t_and ?_ | refine t_or ?_ | refine t_if ?_ | refine t_eand ?_ | refine t_eor ?_ | refine t_enot ?_ | refine t_eM ?_ | refine t_chain ?_ | refine t_ono ?_ | refine t_osome ?_ | refine t_sl ?_ | refine t_rcd ?_ | refine t_dicC ?_ | refine t_fld ?_ | refine t_yes ?_ | refine t_mscons ?_ | refine t_msnil ?_ | refine t_raise ?_ | refine t_par3 ?_ | refine t_unp ?_
      | refine t_callP ⟨rfl, ?_⟩ | refine t_callP ?_ | refine ⟨rfl, ?_⟩ | refine br_t rfl ?_ | refine br_f rfl ?_
      | refine ⟨_, rfl, ?_⟩)
  refine t_eLc (t_lcRun (t_itR (n := m) (by omega) (t_eV rfl ⟨rfl, fun it ov => ⟨_, ov, by simp; omega, fun i acc st => acc.length = i ∧ (∀ x ∈ acc, Kind roles x) ∧ ∃ ys', Row ns ys' ∧ st = [.lst ys', .dic false (gsW gs), .rcd [("roles", .w (rolesW roles)), ("grants", .loc 1)]],
    ⟨rfl, by simp, ys, hy, rfl⟩, fun i acc st h => Nat.le_of_eq h.1, fun i x acc st ex hI => ?_, fun acc st hI => ?_⟩⟩)))
  · obtain ⟨h1, h2, ys1, hy1, rfl⟩ := hI
    refine ⟨_, rfl, ?_⟩
    repeat (first
        | refine t_seq ?_ | refine t_sset ?_ | refine t_sret ?_ | refine t_sexpr ?_ | refine t_snil ?_ | refine t_sif ?_ | refine t_asg ?_ | refine t_msub ?_
        | refine t_eV rfl ?_ | refine t_eC ?_ | refine t_e2 ?_ | refine t_e1 ?_ | refine t_eA ?_ | refine t_nil ?_ | refine t_cons ?_ | refine t_tup ?_ | refine t_lst ?_ | refine t_lstC ?_ | refine t_par ?_
        | refine t_tV ?_ | refine t_not ?_ | refine t_and ?_ | refine t_or ?_ | refine t_if ?_ | refine t_eand ?_ | refine t_eor ?_ | refine t_enot ?_ | refine t_eM ?_ | refine t_chain ?_ | refine t_ono ?_ | refine t_osome ?_ | refine t_sl ?_ | refine t_rcd ?_ | refine t_dicC ?_ | refine t_fld ?_ | refine t_yes ?_ | refine t_mscons ?_ | refine t_msnil ?_ | refine t_raise ?_ | refine t_par3 ?_ | refine t_unp ?_
        | refine t_callP ⟨rfl, ?_⟩ | refine t_callP ?_ | refine ⟨rfl, ?_⟩ | refine br_t rfl ?_ | refine br_f rfl ?_
        | refine ⟨_, rfl, ?_⟩)
    refine t_kind hy1 hr fun k ys2 hk hy2 => ⟨k, rfl, by simp [h1], fun z hz => ?_, ys2, hy2, rfl⟩
    rcases List.mem_append.mp hz with hz | hz
    · exact h2 z hz
    · rw [List.mem_singleton.mp hz]; exact hk
  · obtain ⟨h1, h2, ys1, hy1, rfl⟩ := hI
    have fin : ∀ ks : List W, Kinds roles ks → ∀ x5', ∃ st3, setR [.lst ys1, .dic false (gsW gs), .rcd [("roles", .w (rolesW roles)), ("grants", .loc 1)]] (.loc 1) (.w (.str role)) (.w (.tup ks)) = some st3 ∧ QS (.nx, [some (.loc 0), some (.w (rolesW roles)), some (.loc 2), some (.w (.str role)), some (.w (.int m)), x5', none, none]) st3 := fun ks hk x5' => by
      refine ⟨_, ?_, h ks ys1 x5' hk hy1⟩
      have hf : fits ((gsW gs).length + 1) = true := by unfold fits gsW; simp; omega
      show (if flatK (.str role) && fits ((gsW gs).length + 1) then some _ else none) = _
      rw [hf, show gsW (gs ++ [(role, ks)]) = putD (gsW gs) (.str role) (.tup ks) by rw [putD_new hn]; simp [gsW]]
      rfl
    have h1' : acc.length = m := by simpa using h1
    rcases hm with rfl | rfl
    · match acc, h1', h2 with
      | [k1], _, h2 =>
        repeat (first
            | refine t_seq ?_ | refine t_sset ?_ | refine t_sret ?_ | refine t_sexpr ?_ | refine t_snil ?_ | refine t_sif ?_ | refine t_asg ?_ | refine t_msub ?_
            | refine t_eV rfl ?_ | refine t_eC ?_ | refine t_e2 ?_ | refine t_e1 ?_ | refine t_eA ?_ | refine t_nil ?_ | refine t_cons ?_ | refine t_tup ?_ | refine t_lst ?_ | refine t_lstC ?_ | refine t_par ?_
            | refine t_tV ?_ | refine t_not ?_ | refine t_and ?_ | refine t_or ?_ | refine t_if ?_ | refine t_eand ?_ | refine t_eor ?_ | refine t_enot ?_ | refine t_eM ?_ | refine t_chain ?_ | refine t_ono ?_ | refine t_osome ?_ | refine t_sl ?_ | refine t_rcd ?_ | refine t_dicC ?_ | refine t_fld ?_ | refine t_yes ?_ | refine t_mscons ?_ | refine t_msnil ?_ | refine t_raise ?_ | refine t_par3 ?_ | refine t_unp ?_
            | refine t_callP ⟨rfl, ?_⟩ | refine t_callP ?_ | refine ⟨rfl, ?_⟩ | refine br_t rfl ?_ | refine br_f rfl ?_
            | refine ⟨_, rfl, ?_⟩)
        exact fin [k1] (.inl ⟨k1, rfl, h2 k1 (by simp)⟩) _
    · match acc, h1', h2 with
      | [k1, k2], _, h2 =>
        have hk1 := h2 k1 (by simp)
        have hk2 := h2 k2 (by simp)
        repeat (first
            | refine t_seq ?_ | refine t_sset ?_ | refine t_sret ?_ | refine t_sexpr ?_ | refine t_snil ?_ | refine t_sif ?_ | refine t_asg ?_ | refine t_msub ?_
            | refine t_eV rfl ?_ | refine t_eC ?_ | refine t_e2 ?_ | refine t_e1 ?_ | refine t_eA ?_ | refine t_nil ?_ | refine t_cons ?_ | refine t_tup ?_ | refine t_lst ?_ | refine t_lstC ?_ | refine t_par ?_
            | refine t_tV ?_ | refine t_not ?_ | refine t_and ?_ | refine t_or ?_ | refine t_if ?_ | refine t_eand ?_ | refine t_eor ?_ | refine t_enot ?_ | refine t_eM ?_ | refine t_chain ?_ | refine t_ono ?_ | refine t_osome ?_ | refine t_sl ?_ | refine t_rcd ?_ | refine t_dicC ?_ | refine t_fld ?_ | refine t_yes ?_ | refine t_mscons ?_ | refine t_msnil ?_ | refine t_raise ?_ | refine t_par3 ?_ | refine t_unp ?_
            | refine t_callP ⟨rfl, ?_⟩ | refine t_callP ?_ | refine ⟨rfl, ?_⟩ | refine br_t rfl ?_ | refine br_f rfl ?_
            | refine ⟨_, rfl, ?_⟩)
        refine t_eLc (t_lcPure ?_)
        refine t_itA_lst (xs := [k2]) ?_
        repeat (first
            | refine t_seq ?_ | refine t_sset ?_ | refine t_sret ?_ | refine t_sexpr ?_ | refine t_snil ?_ | refine t_sif ?_ | refine t_asg ?_ | refine t_msub ?_
            | refine t_eV rfl ?_ | refine t_eC ?_ | refine t_e2 ?_ | refine t_e1 ?_ | refine t_eA ?_ | refine t_nil ?_ | refine t_cons ?_ | refine t_tup ?_ | refine t_lst ?_ | refine t_lstC ?_ | refine t_par ?_
            | refine t_tV ?_ | refine t_not ?_ | refine t_and ?_ | refine t_or ?_ | refine t_if ?_ | refine t_eand ?_ | refine t_eor ?_ | refine t_enot ?_ | refine t_eM ?_ | refine t_chain ?_ | refine t_ono ?_ | refine t_osome ?_ | refine t_sl ?_ | refine t_rcd ?_ | refine t_dicC ?_ | refine t_fld ?_ | refine t_yes ?_ | refine t_mscons ?_ | refine t_msnil ?_ | refine t_raise ?_ | refine t_par3 ?_ | refine t_unp ?_
            | refine t_callP ⟨rfl, ?_⟩ | refine t_callP ?_ | refine ⟨rfl, ?_⟩ | refine br_t rfl ?_ | refine br_f rfl ?_
            | refine ⟨_, rfl, ?_⟩)
        refine fun it ov => ⟨_, ov, by simp, fun x => if W.eqv x k1 then none else some x, fun x hx => ?_, ?_⟩
        · have ex := List.mem_singleton.mp hx
          subst ex
          refine ⟨_, rfl, ?_⟩
          repeat (first
              | refine t_seq ?_ | refine t_sset ?_ | refine t_sret ?_ | refine t_sexpr ?_ | refine t_snil ?_ | refine t_sif ?_ | refine t_asg ?_ | refine t_msub ?_
              | refine t_eV rfl ?_ | refine t_eC ?_ | refine t_e2 ?_ | refine t_e1 ?_ | refine t_eA ?_ | refine t_nil ?_ | refine t_cons ?_ | refine t_tup ?_ | refine t_lst ?_ | refine t_lstC ?_ | refine t_par ?_
              | refine t_tV ?_ | refine t_not ?_ | refine t_and ?_ | refine t_or ?_ | refine t_if ?_ | refine t_eand ?_ | refine t_eor ?_ | refine t_enot ?_ | refine t_eM ?_ | refine t_chain ?_ | refine t_ono ?_ | refine t_osome ?_ | refine t_sl ?_ | refine t_rcd ?_ | refine t_dicC ?_ | refine t_fld ?_ | refine t_yes ?_ | refine t_mscons ?_ | refine t_msnil ?_ | refine t_raise ?_ | refine t_par3 ?_ | refine t_unp ?_
              | refine t_callP ⟨rfl, ?_⟩ | refine t_callP ?_ | refine ⟨rfl, ?_⟩ | refine br_t rfl ?_ | refine br_f rfl ?_
              | refine ⟨_, rfl, ?_⟩)
          refine ⟨_, ne_kind hr hk2 hk1 _, ?_⟩
          repeat (first
              | refine t_seq ?_ | refine t_sset ?_ | refine t_sret ?_ | refine t_sexpr ?_ | refine t_snil ?_ | refine t_sif ?_ | refine t_asg ?_ | refine t_msub ?_
              | refine t_eV rfl ?_ | refine t_eC ?_ | refine t_e2 ?_ | refine t_e1 ?_ | refine t_eA ?_ | refine t_nil ?_ | refine t_cons ?_ | refine t_tup ?_ | refine t_lst ?_ | refine t_lstC ?_ | refine t_par ?_
              | refine t_tV ?_ | refine t_not ?_ | refine t_and ?_ | refine t_or ?_ | refine t_if ?_ | refine t_eand ?_ | refine t_eor ?_ | refine t_enot ?_ | refine t_eM ?_ | refine t_chain ?_ | refine t_ono ?_ | refine t_osome ?_ | refine t_sl ?_ | refine t_rcd ?_ | refine t_dicC ?_ | refine t_fld ?_ | refine t_yes ?_ | refine t_mscons ?_ | refine t_msnil ?_ | refine t_raise ?_ | refine t_par3 ?_ | refine t_unp ?_
              | refine t_callP ⟨rfl, ?_⟩ | refine t_callP ?_ | refine ⟨rfl, ?_⟩ | refine br_t rfl ?_ | refine br_f rfl ?_
              | refine ⟨_, rfl, ?_⟩)
          refine ⟨fun hc => ?_, fun hc => ?_⟩
          · repeat (first
              | refine t_seq ?_ | refine t_sset ?_ | refine t_sret ?_ | refine t_sexpr ?_ | refine t_snil ?_ | refine t_sif ?_ | refine t_asg ?_ | refine t_msub ?_
              | refine t_eV rfl ?_ | refine t_eC ?_ | refine t_e2 ?_ | refine t_e1 ?_ | refine t_eA ?_ | refine t_nil ?_ | refine t_cons ?_ | refine t_tup ?_ | refine t_lst ?_ | refine t_lstC ?_ | refine t_par ?_
              | refine t_tV ?_ | refine t_not ?_ | refine t_and ?_ | refine t_or ?_ | refine t_if ?_ | refine t_eand ?_ | refine t_eor ?_ | refine t_enot ?_ | refine t_eM ?_ | refine t_chain ?_ | refine t_ono ?_ | refine t_osome ?_ | refine t_sl ?_ | refine t_rcd ?_ | refine t_dicC ?_ | refine t_fld ?_ | refine t_yes ?_ | refine t_mscons ?_ | refine t_msnil ?_ | refine t_raise ?_ | refine t_par3 ?_ | refine t_unp ?_
              | refine t_callP ⟨rfl, ?_⟩ | refine t_callP ?_ | refine ⟨rfl, ?_⟩ | refine br_t rfl ?_ | refine br_f rfl ?_
              | refine ⟨_, rfl, ?_⟩)
            simp at hc
            simp [hc]
          · simp at hc
            simp [hc]
        · cases hq : W.eqv k2 k1 with
          | true =>
            have e2 : [k2].filterMap (fun x => if W.eqv x k1 then none else some x) = [] := by simp [hq]
            rw [e2]
            repeat (first
                | refine t_seq ?_ | refine t_sset ?_ | refine t_sret ?_ | refine t_sexpr ?_ | refine t_snil ?_ | refine t_sif ?_ | refine t_asg ?_ | refine t_msub ?_
                | refine t_eV rfl ?_ | refine t_eC ?_ | refine t_e2 ?_ | refine t_e1 ?_ | refine t_eA ?_ | refine t_nil ?_ | refine t_cons ?_ | refine t_tup ?_ | refine t_lst ?_ | refine t_lstC ?_ | refine t_par ?_
                | refine t_tV ?_ | refine t_not ?_ | refine t_and ?_ | refine t_or ?_ | refine t_if ?_ | refine t_eand ?_ | refine t_eor ?_ | refine t_enot ?_ | refine t_eM ?_ | refine t_chain ?_ | refine t_ono ?_ | refine t_osome ?_ | refine t_sl ?_ | refine t_rcd ?_ | refine t_dicC ?_ | refine t_fld ?_ | refine t_yes ?_ | refine t_mscons ?_ | refine t_msnil ?_ | refine t_raise ?_ | refine t_par3 ?_ | refine t_unp ?_
                | refine t_callP ⟨rfl, ?_⟩ | refine t_callP ?_ | refine ⟨rfl, ?_⟩ | refine br_t rfl ?_ | refine br_f rfl ?_
                | refine ⟨_, rfl, ?_⟩)
            exact fin [k1] (.inl ⟨k1, rfl, hk1⟩) _
          | false =>
            have e2 : [k2].filterMap (fun x => if W.eqv x k1 then none else some x) = [k2] := by simp [hq]
            rw [e2]
            repeat (first
                | refine t_seq ?_ | refine t_sset ?_ | refine t_sret ?_ | refine t_sexpr ?_ | refine t_snil ?_ | refine t_sif ?_ | refine t_asg ?_ | refine t_msub ?_
                | refine t_eV rfl ?_ | refine t_eC ?_ | refine t_e2 ?_ | refine t_e1 ?_ | refine t_eA ?_ | refine t_nil ?_ | refine t_cons ?_ | refine t_tup ?_ | refine t_lst ?_ | refine t_lstC ?_ | refine t_par ?_
                | refine t_tV ?_ | refine t_not ?_ | refine t_and ?_ | refine t_or ?_ | refine t_if ?_ | refine t_eand ?_ | refine t_eor ?_ | refine t_enot ?_ | refine t_eM ?_ | refine t_chain ?_ | refine t_ono ?_ | refine t_osome ?_ | refine t_sl ?_ | refine t_rcd ?_ | refine t_dicC ?_ | refine t_fld ?_ | refine t_yes ?_ | refine t_mscons ?_ | refine t_msnil ?_ | refine t_raise ?_ | refine t_par3 ?_ | refine t_unp ?_
                | refine t_callP ⟨rfl, ?_⟩ | refine t_callP ?_ | refine ⟨rfl, ?_⟩ | refine br_t rfl ?_ | refine br_f rfl ?_
                | refine ⟨_, rfl, ?_⟩)
            exact fin [k1, k2] (.inr ⟨k1, k2, rfl, hk1, hk2, hq⟩) _
end Iv.T
end
section
set_option Elab.async false
set_option linter.all false
set_option maxRecDepth 100000
set_option maxHeartbeats 4000000
namespace Iv.T
open PySem PySem.Spec PyProof.Rows L2
theorem t_itRx {E : Exc → Sto → Prop} {f : Iv.Env → M R} {ρ : Iv.Env} {st : Sto} {QI : Iter → Sto → Prop} (h : Go E (f ρ) st fun r st1 => ∃ n : Nat, r = .w (.int n) ∧ n ≤ 1000000 ∧ ∀ it, Over it ((List.range n).map fun i => .int (i : Nat)) → QI it st1) : Go E (itR f ρ) st QI :=
  t_bnd (h.imp fun r s1 ⟨n, e, hn, q⟩ => by subst e; exact (t_itR (f := eC (.int (n : Nat))) (ρ := []) (n := n) hn (t_eC ⟨rfl, q⟩) : Go E (itR (eC (.int (n : Nat))) []) s1 QI))
structure DrawnOk (roles : List Str) (gs : List (Str × List W)) (rules : List (List (Str × Bool) × Str)) (c j : Str) : Prop where
  hr : roles ∈ rolesL
  gsub : (gs.map (·.1)).Sublist roles.reverse
  gk : ∀ p ∈ gs, Kinds roles p.2
  rl : ∀ r ∈ rules, Rule r.1 r.2
  rlen : rules.length ≤ 4
  hc : c ∈ (["keep", "take"] : List Str)
  hj : j ∈ (["greater", "less"] : List Str)
def rulesW (rules : List (List (Str × Bool) × Str)) : W := .tup (rules.map fun r => ruleW r.1 r.2)
def drawnW (roles : List Str) (gs : List (Str × List W)) (rules : List (List (Str × Bool) × Str)) (c j : Str) : W :=
  .dic false [(.str "roles", rolesW roles), (.str "grants", .dic false (gsW gs)), (.str "rules", rulesW rules), (.str "close", .str c), (.str "join", .str j)]
theorem drawn_run {ns : List Int} {xs : List W} (hx : Row ns xs) : Tot (f__law_drawn [.loc 0]) [.lst xs] fun r st => ∃ roles gs rules c j ys, DrawnOk roles gs rules c j ∧ Row ns ys ∧ r = .loc 2 ∧ st = [.lst ys, .dic false (gsW gs), .rcd [("roles", .w (rolesW roles)), ("grants", .loc 1), ("rules", .w (rulesW rules)), ("close", .w (.str c)), ("join", .w (.str j))]] := by
  refine t_runB ?_
  unfold g__law_drawn
  repeat (first
      | refine t_seq ?_ | refine t_sset ?_ | refine t_sret ?_ | refine t_sexpr ?_ | refine t_snil ?_ | refine t_sif ?_ | refine t_asg ?_ | refine t_msub ?_
      | refine t_eV rfl ?_ | refine t_eC ?_ | refine t_e2 ?_ | refine t_e1 ?_ | refine t_eA ?_ | refine t_nil ?_ | refine t_cons ?_ | refine t_tup ?_ | refine t_lst ?_ | refine t_lstC ?_ | refine t_par ?_
      | refine t_tV ?_ | refine t_not ?_ | refine t_and ?_ | refine t_or ?_ | refine t_if ?_ | refine t_eand ?_ | refine t_eor ?_ | refine t_enot ?_ | refine t_eM ?_ | refine t_chain ?_ | refine t_ono ?_ | refine t_osome ?_ | refine t_sl ?_ | refine t_rcd ?_ | refine t_dicC ?_ | refine t_fld ?_ | refine t_yes ?_ | refine t_mscons ?_ | refine t_msnil ?_ | refine t_raise ?_ | refine t_par3 ?_ | refine t_unp ?_
      | refine t_callP ⟨rfl, ?_⟩ | refine t_callP ?_ | refine ⟨rfl, ?_⟩ | refine br_t rfl ?_ | refine br_f rfl ?_
      | refine ⟨_, rfl, ?_⟩)
  refine t_taken hx (by decide) (by decide) fun v ys a b hy => ?_
  obtain ⟨ro, hro, e⟩ := lst_at (xs := rolesL.map rolesW) a (by simpa [rolesL] using b) [.lst ys]
  obtain ⟨roles, hr, rfl⟩ := List.mem_map.mp hro
  refine ⟨_, e, ?_⟩
  obtain ⟨l0, l4⟩ := rolesL_len hr
  have nd := (rolesL_ok hr).2
  repeat (first
      | refine t_seq ?_ | refine t_sset ?_ | refine t_sret ?_ | refine t_sexpr ?_ | refine t_snil ?_ | refine t_sif ?_ | refine t_asg ?_ | refine t_msub ?_
      | refine t_eV rfl ?_ | refine t_eC ?_ | refine t_e2 ?_ | refine t_e1 ?_ | refine t_eA ?_ | refine t_nil ?_ | refine t_cons ?_ | refine t_tup ?_ | refine t_lst ?_ | refine t_lstC ?_ | refine t_par ?_
      | refine t_tV ?_ | refine t_not ?_ | refine t_and ?_ | refine t_or ?_ | refine t_if ?_ | refine t_eand ?_ | refine t_eor ?_ | refine t_enot ?_ | refine t_eM ?_ | refine t_chain ?_ | refine t_ono ?_ | refine t_osome ?_ | refine t_sl ?_ | refine t_rcd ?_ | refine t_dicC ?_ | refine t_fld ?_ | refine t_yes ?_ | refine t_mscons ?_ | refine t_msnil ?_ | refine t_raise ?_ | refine t_par3 ?_ | refine t_unp ?_
      | refine t_callP ⟨rfl, ?_⟩ | refine t_callP ?_ | refine ⟨rfl, ?_⟩ | refine br_t rfl ?_ | refine br_f rfl ?_
      | refine ⟨_, rfl, ?_⟩)
  refine t_sfor (t_itA_tup (xs := (roles.map W.str).reverse) (t_e1 (t_eV rfl ⟨_, rfl, rfl, fun it ov => ⟨_, ov, fun i ρ st => ∃ gs ys x3 x4 x5, i ≤ roles.length ∧ Row ns ys ∧ ρ = [some (.loc 0), some (.w (rolesW roles)), some (.loc 2), x3, x4, x5, none, none] ∧ st = [.lst ys, .dic false (gsW gs), .rcd [("roles", .w (rolesW roles)), ("grants", .loc 1)]] ∧ (gs.map (·.1)).Sublist (roles.reverse.take i) ∧ (∀ p ∈ gs, Kinds roles p.2),
    ⟨[], ys, none, none, none, Nat.zero_le _, hy, rfl, rfl, .slnil, by simp⟩, fun i x ρ st ex hI => ?_, fun ρ st hI => ?_⟩⟩)))
  · obtain ⟨gs, ys1, x3, x4, x5, hi, hy1, rfl, rfl, hs, hk⟩ := hI
    obtain ⟨role, er, rfl⟩ : ∃ role, roles.reverse[i]? = some role ∧ x = .str role := by
      rw [← List.map_reverse, List.getElem?_map] at ex
      obtain ⟨wd, e1, e2⟩ := Option.map_eq_some_iff.mp ex
      exact ⟨wd, e1, e2.symm⟩
    have hil : i < roles.length := by simpa using (List.getElem?_eq_some_iff.mp er).1
    have tk : roles.reverse.take (i + 1) = roles.reverse.take i ++ [role] := by rw [List.take_succ, er]; rfl
    have keep : (gs.map (·.1)).Sublist (roles.reverse.take (i + 1)) := by rw [tk]; exact hs.trans (List.sublist_append_left _ _)
    have ndr : (roles.reverse.take (i + 1)).Nodup := ((List.reverse_perm roles).nodup_iff.mpr nd).sublist (List.take_sublist _ _)
    have hn : role ∉ gs.map (·.1) := fun hm => by
      rw [tk] at ndr
      exact (List.nodup_append.mp ndr).2.2 role (hs.subset hm) role (by simp) rfl
    have hlen : gs.length ≤ 4 := by
      have := hs.length_le
      simp only [List.length_map, List.length_take, List.length_reverse] at this
      omega
    have done : ∀ (m : Nat) (ys2 : List W) (x5 : Option R), m = 1 ∨ m = 2 → Row ns ys2 → Go E0 (drawnTail [some (.loc 0), some (.w (rolesW roles)), some (.loc 2), some (.w (.str role)), some (.w (.int m)), x5, none, none]) [.lst ys2, .dic false (gsW gs), .rcd [("roles", .w (rolesW roles)), ("grants", .loc 1)]]
        fun p st' => p.1 = .nx ∧ (∃ gs ys x3 x4 x5, i + 1 ≤ roles.length ∧ Row ns ys ∧ p.2 = [some (.loc 0), some (.w (rolesW roles)), some (.loc 2), x3, x4, x5, none, none] ∧ st' = [.lst ys, .dic false (gsW gs), .rcd [("roles", .w (rolesW roles)), ("grants", .loc 1)]] ∧ (gs.map (·.1)).Sublist (roles.reverse.take (i + 1)) ∧ (∀ p ∈ gs, Kinds roles p.2)) := fun m ys2 x5 hm hy2 =>
      tail_ok hr hy2 hm hn hlen fun ks ys3 x5' hks hy3 => ⟨rfl, gs ++ [(role, ks)], ys3, _, _, x5', by omega, hy3, rfl, rfl, by rw [tk, List.map_append]; exact hs.append (List.Sublist.refl _), fun p hp => by
        rcases List.mem_append.mp hp with hp | hp
        · exact hk p hp
        · rw [List.mem_singleton.mp hp]; exact hks⟩
    obtain ⟨last, el⟩ := last_at hr [.lst ys1, .dic false (gsW gs), .rcd [("roles", .w (rolesW roles)), ("grants", .loc 1)]]
    refine ⟨_, rfl, ?_⟩
    repeat (first
        | refine t_seq ?_ | refine t_sset ?_ | refine t_sret ?_ | refine t_sexpr ?_ | refine t_snil ?_ | refine t_sif ?_ | refine t_asg ?_ | refine t_msub ?_
        | refine t_eV rfl ?_ | refine t_eC ?_ | refine t_e2 ?_ | refine t_e1 ?_ | refine t_eA ?_ | refine t_nil ?_ | refine t_cons ?_ | refine t_tup ?_ | refine t_lst ?_ | refine t_lstC ?_ | refine t_par ?_
        | refine t_tV ?_ | refine t_not ?_ | refine t_and ?_ | refine t_or ?_ | refine t_if ?_ | refine t_eand ?_ | refine t_eor ?_ | refine t_enot ?_ | refine t_eM ?_ | refine t_chain ?_ | refine t_ono ?_ | refine t_osome ?_ | refine t_sl ?_ | refine t_rcd ?_ | refine t_dicC ?_ | refine t_fld ?_ | refine t_yes ?_ | refine t_mscons ?_ | refine t_msnil ?_ | refine t_raise ?_ | refine t_par3 ?_ | refine t_unp ?_
        | refine t_callP ⟨rfl, ?_⟩ | refine t_callP ?_ | refine ⟨rfl, ?_⟩ | refine br_t rfl ?_ | refine br_f rfl ?_
        | refine ⟨_, rfl, ?_⟩)
    refine ⟨_, el, ?_⟩
    repeat (first
        | refine t_seq ?_ | refine t_sset ?_ | refine t_sret ?_ | refine t_sexpr ?_ | refine t_snil ?_ | refine t_sif ?_ | refine t_asg ?_ | refine t_msub ?_
        | refine t_eV rfl ?_ | refine t_eC ?_ | refine t_e2 ?_ | refine t_e1 ?_ | refine t_eA ?_ | refine t_nil ?_ | refine t_cons ?_ | refine t_tup ?_ | refine t_lst ?_ | refine t_lstC ?_ | refine t_par ?_
        | refine t_tV ?_ | refine t_not ?_ | refine t_and ?_ | refine t_or ?_ | refine t_if ?_ | refine t_eand ?_ | refine t_eor ?_ | refine t_enot ?_ | refine t_eM ?_ | refine t_chain ?_ | refine t_ono ?_ | refine t_osome ?_ | refine t_sl ?_ | refine t_rcd ?_ | refine t_dicC ?_ | refine t_fld ?_ | refine t_yes ?_ | refine t_mscons ?_ | refine t_msnil ?_ | refine t_raise ?_ | refine t_par3 ?_ | refine t_unp ?_
        | refine t_callP ⟨rfl, ?_⟩ | refine t_callP ?_ | refine ⟨rfl, ?_⟩ | refine br_t rfl ?_ | refine br_f rfl ?_
        | refine ⟨_, rfl, ?_⟩)
    have fin : ∀ {p : Fl × Iv.Env} {st' : Sto} {A B C D : Prop}, (p.1 = .nx ∧ A) → (match p.1 with | .nx => A | .ct => B | .bk => C | _ => D) := fun {p st' A B C D} h => by
      obtain ⟨fl, ρ⟩ := p
      obtain ⟨h1, h2⟩ := h
      have h1' : fl = .nx := h1
      subst h1'
      exact h2
    refine ⟨fun hb => ?_, fun hb => ?_⟩
    · repeat (first
        | refine t_seq ?_ | refine t_sset ?_ | refine t_sret ?_ | refine t_sexpr ?_ | refine t_snil ?_ | refine t_sif ?_ | refine t_asg ?_ | refine t_msub ?_
        | refine t_eV rfl ?_ | refine t_eC ?_ | refine t_e2 ?_ | refine t_e1 ?_ | refine t_eA ?_ | refine t_nil ?_ | refine t_cons ?_ | refine t_tup ?_ | refine t_lst ?_ | refine t_lstC ?_ | refine t_par ?_
        | refine t_tV ?_ | refine t_not ?_ | refine t_and ?_ | refine t_or ?_ | refine t_if ?_ | refine t_eand ?_ | refine t_eor ?_ | refine t_enot ?_ | refine t_eM ?_ | refine t_chain ?_ | refine t_ono ?_ | refine t_osome ?_ | refine t_sl ?_ | refine t_rcd ?_ | refine t_dicC ?_ | refine t_fld ?_ | refine t_yes ?_ | refine t_mscons ?_ | refine t_msnil ?_ | refine t_raise ?_ | refine t_par3 ?_ | refine t_unp ?_
        | refine t_callP ⟨rfl, ?_⟩ | refine t_callP ?_ | refine ⟨rfl, ?_⟩ | refine br_t rfl ?_ | refine br_f rfl ?_
        | refine ⟨_, rfl, ?_⟩)
      refine ⟨_, el, ?_⟩
      repeat (first
          | refine t_seq ?_ | refine t_sset ?_ | refine t_sret ?_ | refine t_sexpr ?_ | refine t_snil ?_ | refine t_sif ?_ | refine t_asg ?_ | refine t_msub ?_
          | refine t_eV rfl ?_ | refine t_eC ?_ | refine t_e2 ?_ | refine t_e1 ?_ | refine t_eA ?_ | refine t_nil ?_ | refine t_cons ?_ | refine t_tup ?_ | refine t_lst ?_ | refine t_lstC ?_ | refine t_par ?_
          | refine t_tV ?_ | refine t_not ?_ | refine t_and ?_ | refine t_or ?_ | refine t_if ?_ | refine t_eand ?_ | refine t_eor ?_ | refine t_enot ?_ | refine t_eM ?_ | refine t_chain ?_ | refine t_ono ?_ | refine t_osome ?_ | refine t_sl ?_ | refine t_rcd ?_ | refine t_dicC ?_ | refine t_fld ?_ | refine t_yes ?_ | refine t_mscons ?_ | refine t_msnil ?_ | refine t_raise ?_ | refine t_par3 ?_ | refine t_unp ?_
          | refine t_callP ⟨rfl, ?_⟩ | refine t_callP ?_ | refine ⟨rfl, ?_⟩ | refine br_t rfl ?_ | refine br_f rfl ?_
          | refine ⟨_, rfl, ?_⟩)
      refine br_t hb ?_
      repeat (first
          | refine t_seq ?_ | refine t_sset ?_ | refine t_sret ?_ | refine t_sexpr ?_ | refine t_snil ?_ | refine t_sif ?_ | refine t_asg ?_ | refine t_msub ?_
          | refine t_eV rfl ?_ | refine t_eC ?_ | refine t_e2 ?_ | refine t_e1 ?_ | refine t_eA ?_ | refine t_nil ?_ | refine t_cons ?_ | refine t_tup ?_ | refine t_lst ?_ | refine t_lstC ?_ | refine t_par ?_
          | refine t_tV ?_ | refine t_not ?_ | refine t_and ?_ | refine t_or ?_ | refine t_if ?_ | refine t_eand ?_ | refine t_eor ?_ | refine t_enot ?_ | refine t_eM ?_ | refine t_chain ?_ | refine t_ono ?_ | refine t_osome ?_ | refine t_sl ?_ | refine t_rcd ?_ | refine t_dicC ?_ | refine t_fld ?_ | refine t_yes ?_ | refine t_mscons ?_ | refine t_msnil ?_ | refine t_raise ?_ | refine t_par3 ?_ | refine t_unp ?_
          | refine t_callP ⟨rfl, ?_⟩ | refine t_callP ?_ | refine ⟨rfl, ?_⟩ | refine br_t rfl ?_ | refine br_f rfl ?_
          | refine ⟨_, rfl, ?_⟩)
      refine ⟨fun _ => ?_, fun _ => ?_⟩
      · repeat (first
          | refine t_seq ?_ | refine t_sset ?_ | refine t_sret ?_ | refine t_sexpr ?_ | refine t_snil ?_ | refine t_sif ?_ | refine t_asg ?_ | refine t_msub ?_
          | refine t_eV rfl ?_ | refine t_eC ?_ | refine t_e2 ?_ | refine t_e1 ?_ | refine t_eA ?_ | refine t_nil ?_ | refine t_cons ?_ | refine t_tup ?_ | refine t_lst ?_ | refine t_lstC ?_ | refine t_par ?_
          | refine t_tV ?_ | refine t_not ?_ | refine t_and ?_ | refine t_or ?_ | refine t_if ?_ | refine t_eand ?_ | refine t_eor ?_ | refine t_enot ?_ | refine t_eM ?_ | refine t_chain ?_ | refine t_ono ?_ | refine t_osome ?_ | refine t_sl ?_ | refine t_rcd ?_ | refine t_dicC ?_ | refine t_fld ?_ | refine t_yes ?_ | refine t_mscons ?_ | refine t_msnil ?_ | refine t_raise ?_ | refine t_par3 ?_ | refine t_unp ?_
          | refine t_callP ⟨rfl, ?_⟩ | refine t_callP ?_ | refine ⟨rfl, ?_⟩ | refine br_t rfl ?_ | refine br_f rfl ?_
          | refine ⟨_, rfl, ?_⟩)
        refine t_taken hy1 (by decide) (by decide) fun v2 ys2 a2 b2 hy2 => ?_
        have hv : v2 = 0 ∨ v2 = 1 := by omega
        rcases hv with rfl | rfl
        · refine ⟨_, rfl, ?_⟩
          exact (done 1 ys2 _ (.inl rfl) hy2).imp fun p st' h => fin (st' := st') h
        · refine ⟨_, rfl, ?_⟩
          exact (done 2 ys2 _ (.inr rfl) hy2).imp fun p st' h => fin (st' := st') h
      · refine t_eC ⟨_, rfl, ?_⟩
        exact (done 1 ys1 _ (.inl rfl) hy1).imp fun p st' h => fin (st' := st') h
    · repeat (first
        | refine t_seq ?_ | refine t_sset ?_ | refine t_sret ?_ | refine t_sexpr ?_ | refine t_snil ?_ | refine t_sif ?_ | refine t_asg ?_ | refine t_msub ?_
        | refine t_eV rfl ?_ | refine t_eC ?_ | refine t_e2 ?_ | refine t_e1 ?_ | refine t_eA ?_ | refine t_nil ?_ | refine t_cons ?_ | refine t_tup ?_ | refine t_lst ?_ | refine t_lstC ?_ | refine t_par ?_
        | refine t_tV ?_ | refine t_not ?_ | refine t_and ?_ | refine t_or ?_ | refine t_if ?_ | refine t_eand ?_ | refine t_eor ?_ | refine t_enot ?_ | refine t_eM ?_ | refine t_chain ?_ | refine t_ono ?_ | refine t_osome ?_ | refine t_sl ?_ | refine t_rcd ?_ | refine t_dicC ?_ | refine t_fld ?_ | refine t_yes ?_ | refine t_mscons ?_ | refine t_msnil ?_ | refine t_raise ?_ | refine t_par3 ?_ | refine t_unp ?_
        | refine t_callP ⟨rfl, ?_⟩ | refine t_callP ?_ | refine ⟨rfl, ?_⟩ | refine br_t rfl ?_ | refine br_f rfl ?_
        | refine ⟨_, rfl, ?_⟩)
      refine t_taken hy1 (by decide) (by decide) fun v2 ys2 a2 b2 hy2 => ?_
      obtain ⟨last', el'⟩ := last_at hr [.lst ys2, .dic false (gsW gs), .rcd [("roles", .w (rolesW roles)), ("grants", .loc 1)]]
      have ell : last' = last := by
        have h1 : (ixR2 [] (.w (rolesW roles)) (.w (.int (-1)))) = some (.w (.str last')) := el'
        have h2 : (ixR2 [] (.w (rolesW roles)) (.w (.int (-1)))) = some (.w (.str last)) := el
        have h3 := h1.symm.trans h2
        cases h3
        rfl
      repeat (first
          | refine t_seq ?_ | refine t_sset ?_ | refine t_sret ?_ | refine t_sexpr ?_ | refine t_snil ?_ | refine t_sif ?_ | refine t_asg ?_ | refine t_msub ?_
          | refine t_eV rfl ?_ | refine t_eC ?_ | refine t_e2 ?_ | refine t_e1 ?_ | refine t_eA ?_ | refine t_nil ?_ | refine t_cons ?_ | refine t_tup ?_ | refine t_lst ?_ | refine t_lstC ?_ | refine t_par ?_
          | refine t_tV ?_ | refine t_not ?_ | refine t_and ?_ | refine t_or ?_ | refine t_if ?_ | refine t_eand ?_ | refine t_eor ?_ | refine t_enot ?_ | refine t_eM ?_ | refine t_chain ?_ | refine t_ono ?_ | refine t_osome ?_ | refine t_sl ?_ | refine t_rcd ?_ | refine t_dicC ?_ | refine t_fld ?_ | refine t_yes ?_ | refine t_mscons ?_ | refine t_msnil ?_ | refine t_raise ?_ | refine t_par3 ?_ | refine t_unp ?_
          | refine t_callP ⟨rfl, ?_⟩ | refine t_callP ?_ | refine ⟨rfl, ?_⟩ | refine br_t rfl ?_ | refine br_f rfl ?_
          | refine ⟨_, rfl, ?_⟩)
      refine ⟨fun _ => ?_, fun _ => ?_⟩
      · repeat (first
          | refine t_seq ?_ | refine t_sset ?_ | refine t_sret ?_ | refine t_sexpr ?_ | refine t_snil ?_ | refine t_sif ?_ | refine t_asg ?_ | refine t_msub ?_
          | refine t_eV rfl ?_ | refine t_eC ?_ | refine t_e2 ?_ | refine t_e1 ?_ | refine t_eA ?_ | refine t_nil ?_ | refine t_cons ?_ | refine t_tup ?_ | refine t_lst ?_ | refine t_lstC ?_ | refine t_par ?_
          | refine t_tV ?_ | refine t_not ?_ | refine t_and ?_ | refine t_or ?_ | refine t_if ?_ | refine t_eand ?_ | refine t_eor ?_ | refine t_enot ?_ | refine t_eM ?_ | refine t_chain ?_ | refine t_ono ?_ | refine t_osome ?_ | refine t_sl ?_ | refine t_rcd ?_ | refine t_dicC ?_ | refine t_fld ?_ | refine t_yes ?_ | refine t_mscons ?_ | refine t_msnil ?_ | refine t_raise ?_ | refine t_par3 ?_ | refine t_unp ?_
          | refine t_callP ⟨rfl, ?_⟩ | refine t_callP ?_ | refine ⟨rfl, ?_⟩ | refine br_t rfl ?_ | refine br_f rfl ?_
          | refine ⟨_, rfl, ?_⟩)
        refine ⟨_, el', ?_⟩
        repeat (first
            | refine t_seq ?_ | refine t_sset ?_ | refine t_sret ?_ | refine t_sexpr ?_ | refine t_snil ?_ | refine t_sif ?_ | refine t_asg ?_ | refine t_msub ?_
            | refine t_eV rfl ?_ | refine t_eC ?_ | refine t_e2 ?_ | refine t_e1 ?_ | refine t_eA ?_ | refine t_nil ?_ | refine t_cons ?_ | refine t_tup ?_ | refine t_lst ?_ | refine t_lstC ?_ | refine t_par ?_
            | refine t_tV ?_ | refine t_not ?_ | refine t_and ?_ | refine t_or ?_ | refine t_if ?_ | refine t_eand ?_ | refine t_eor ?_ | refine t_enot ?_ | refine t_eM ?_ | refine t_chain ?_ | refine t_ono ?_ | refine t_osome ?_ | refine t_sl ?_ | refine t_rcd ?_ | refine t_dicC ?_ | refine t_fld ?_ | refine t_yes ?_ | refine t_mscons ?_ | refine t_msnil ?_ | refine t_raise ?_ | refine t_par3 ?_ | refine t_unp ?_
            | refine t_callP ⟨rfl, ?_⟩ | refine t_callP ?_ | refine ⟨rfl, ?_⟩ | refine br_t rfl ?_ | refine br_f rfl ?_
            | refine ⟨_, rfl, ?_⟩)
        refine br_f (by rw [ell]; exact hb) (br_f rfl (t_eC ⟨_, rfl, ?_⟩))
        exact (done 1 ys2 _ (.inl rfl) hy2).imp fun p st' h => fin (st' := st') h
      · repeat (first
          | refine t_seq ?_ | refine t_sset ?_ | refine t_sret ?_ | refine t_sexpr ?_ | refine t_snil ?_ | refine t_sif ?_ | refine t_asg ?_ | refine t_msub ?_
          | refine t_eV rfl ?_ | refine t_eC ?_ | refine t_e2 ?_ | refine t_e1 ?_ | refine t_eA ?_ | refine t_nil ?_ | refine t_cons ?_ | refine t_tup ?_ | refine t_lst ?_ | refine t_lstC ?_ | refine t_par ?_
          | refine t_tV ?_ | refine t_not ?_ | refine t_and ?_ | refine t_or ?_ | refine t_if ?_ | refine t_eand ?_ | refine t_eor ?_ | refine t_enot ?_ | refine t_eM ?_ | refine t_chain ?_ | refine t_ono ?_ | refine t_osome ?_ | refine t_sl ?_ | refine t_rcd ?_ | refine t_dicC ?_ | refine t_fld ?_ | refine t_yes ?_ | refine t_mscons ?_ | refine t_msnil ?_ | refine t_raise ?_ | refine t_par3 ?_ | refine t_unp ?_
          | refine t_callP ⟨rfl, ?_⟩ | refine t_callP ?_ | refine ⟨rfl, ?_⟩ | refine br_t rfl ?_ | refine br_f rfl ?_
          | refine ⟨_, rfl, ?_⟩)
        exact ⟨gs, ys2, _, _, _, by omega, hy2, rfl, rfl, keep, hk⟩
  · obtain ⟨gs, ys1, x3, x4, x5, hi, hy1, rfl, rfl, hs, hk⟩ := hI
    have hs' : (gs.map (·.1)).Sublist roles.reverse := by
      rw [show (List.map W.str roles).reverse.length = roles.reverse.length by simp, List.take_length] at hs
      exact hs
    repeat (first
        | refine t_seq ?_ | refine t_sset ?_ | refine t_sret ?_ | refine t_sexpr ?_ | refine t_snil ?_ | refine t_sif ?_ | refine t_asg ?_ | refine t_msub ?_
        | refine t_eV rfl ?_ | refine t_eC ?_ | refine t_e2 ?_ | refine t_e1 ?_ | refine t_eA ?_ | refine t_nil ?_ | refine t_cons ?_ | refine t_tup ?_ | refine t_lst ?_ | refine t_lstC ?_ | refine t_par ?_
        | refine t_tV ?_ | refine t_not ?_ | refine t_and ?_ | refine t_or ?_ | refine t_if ?_ | refine t_eand ?_ | refine t_eor ?_ | refine t_enot ?_ | refine t_eM ?_ | refine t_chain ?_ | refine t_ono ?_ | refine t_osome ?_ | refine t_sl ?_ | refine t_rcd ?_ | refine t_dicC ?_ | refine t_fld ?_ | refine t_yes ?_ | refine t_mscons ?_ | refine t_msnil ?_ | refine t_raise ?_ | refine t_par3 ?_ | refine t_unp ?_
        | refine t_callP ⟨rfl, ?_⟩ | refine t_callP ?_ | refine ⟨rfl, ?_⟩ | refine br_t rfl ?_ | refine br_f rfl ?_
        | refine ⟨_, rfl, ?_⟩)
    refine t_eLc (t_lcRun (t_itRx ?_))
    repeat (first
        | refine t_seq ?_ | refine t_sset ?_ | refine t_sret ?_ | refine t_sexpr ?_ | refine t_snil ?_ | refine t_sif ?_ | refine t_asg ?_ | refine t_msub ?_
        | refine t_eV rfl ?_ | refine t_eC ?_ | refine t_e2 ?_ | refine t_e1 ?_ | refine t_eA ?_ | refine t_nil ?_ | refine t_cons ?_ | refine t_tup ?_ | refine t_lst ?_ | refine t_lstC ?_ | refine t_par ?_
        | refine t_tV ?_ | refine t_not ?_ | refine t_and ?_ | refine t_or ?_ | refine t_if ?_ | refine t_eand ?_ | refine t_eor ?_ | refine t_enot ?_ | refine t_eM ?_ | refine t_chain ?_ | refine t_ono ?_ | refine t_osome ?_ | refine t_sl ?_ | refine t_rcd ?_ | refine t_dicC ?_ | refine t_fld ?_ | refine t_yes ?_ | refine t_mscons ?_ | refine t_msnil ?_ | refine t_raise ?_ | refine t_par3 ?_ | refine t_unp ?_
        | refine t_callP ⟨rfl, ?_⟩ | refine t_callP ?_ | refine ⟨rfl, ?_⟩ | refine br_t rfl ?_ | refine br_f rfl ?_
        | refine ⟨_, rfl, ?_⟩)
    refine t_taken hy1 (by decide) (by decide) fun v2 ys2 a2 b2 hy2 => ?_
    obtain ⟨n, rfl⟩ : ∃ n : Nat, v2 = n := ⟨v2.toNat, by omega⟩
    have hn4 : n < 4 := by omega
    refine ⟨n, rfl, by omega, fun it ov => ⟨_, ov, by simp; omega, fun i acc st => ∃ rules ys', acc = rules.map (fun r : List (Str × Bool) × Str => ruleW r.1 r.2) ∧ rules.length = i ∧ (∀ r ∈ rules, Rule r.1 r.2) ∧ Row ns ys' ∧ st = [.lst ys', .dic false (gsW gs), .rcd [("roles", .w (rolesW roles)), ("grants", .loc 1)]],
      ⟨[], ys2, rfl, rfl, by simp, hy2, rfl⟩, fun i acc st h => ?_, fun i x acc st ex hI => ?_, fun acc st hI => ?_⟩⟩
    · obtain ⟨rules, _, rfl, h2, _⟩ := h
      simp [h2]
    · obtain ⟨rules, ys3, rfl, h2, h3, hy3, rfl⟩ := hI
      refine ⟨_, rfl, ?_⟩
      repeat (first
          | refine t_seq ?_ | refine t_sset ?_ | refine t_sret ?_ | refine t_sexpr ?_ | refine t_snil ?_ | refine t_sif ?_ | refine t_asg ?_ | refine t_msub ?_
          | refine t_eV rfl ?_ | refine t_eC ?_ | refine t_e2 ?_ | refine t_e1 ?_ | refine t_eA ?_ | refine t_nil ?_ | refine t_cons ?_ | refine t_tup ?_ | refine t_lst ?_ | refine t_lstC ?_ | refine t_par ?_
          | refine t_tV ?_ | refine t_not ?_ | refine t_and ?_ | refine t_or ?_ | refine t_if ?_ | refine t_eand ?_ | refine t_eor ?_ | refine t_enot ?_ | refine t_eM ?_ | refine t_chain ?_ | refine t_ono ?_ | refine t_osome ?_ | refine t_sl ?_ | refine t_rcd ?_ | refine t_dicC ?_ | refine t_fld ?_ | refine t_yes ?_ | refine t_mscons ?_ | refine t_msnil ?_ | refine t_raise ?_ | refine t_par3 ?_ | refine t_unp ?_
          | refine t_callP ⟨rfl, ?_⟩ | refine t_callP ?_ | refine ⟨rfl, ?_⟩ | refine br_t rfl ?_ | refine br_f rfl ?_
          | refine ⟨_, rfl, ?_⟩)
      refine t_rule hy3 fun ts an ys4 hru hy4 => ⟨_, rfl, rules ++ [(ts, an)], ys4, by simp, by simp [h2], fun r hr' => ?_, hy4, rfl⟩
      rcases List.mem_append.mp hr' with h | h
      · exact h3 r h
      · rw [List.mem_singleton.mp h]; exact hru
    · obtain ⟨rules, ys3, rfl, h2, h3, hy3, rfl⟩ := hI
      have hlen : rules.length < 4 := by rw [h2]; simpa using hn4
      repeat (first
          | refine t_seq ?_ | refine t_sset ?_ | refine t_sret ?_ | refine t_sexpr ?_ | refine t_snil ?_ | refine t_sif ?_ | refine t_asg ?_ | refine t_msub ?_
          | refine t_eV rfl ?_ | refine t_eC ?_ | refine t_e2 ?_ | refine t_e1 ?_ | refine t_eA ?_ | refine t_nil ?_ | refine t_cons ?_ | refine t_tup ?_ | refine t_lst ?_ | refine t_lstC ?_ | refine t_par ?_
          | refine t_tV ?_ | refine t_not ?_ | refine t_and ?_ | refine t_or ?_ | refine t_if ?_ | refine t_eand ?_ | refine t_eor ?_ | refine t_enot ?_ | refine t_eM ?_ | refine t_chain ?_ | refine t_ono ?_ | refine t_osome ?_ | refine t_sl ?_ | refine t_rcd ?_ | refine t_dicC ?_ | refine t_fld ?_ | refine t_yes ?_ | refine t_mscons ?_ | refine t_msnil ?_ | refine t_raise ?_ | refine t_par3 ?_ | refine t_unp ?_
          | refine t_callP ⟨rfl, ?_⟩ | refine t_callP ?_ | refine ⟨rfl, ?_⟩ | refine br_t rfl ?_ | refine br_f rfl ?_
          | refine ⟨_, rfl, ?_⟩)
      refine t_taken hy3 (by decide) (by decide) fun v4 ys4 a4 b4 hy4 => ?_
      obtain ⟨c, hc, ec⟩ := lst_at (xs := (["keep", "take"] : List Str).map W.str) a4 b4 [.lst ys4, .dic false (gsW gs), .rcd [("roles", .w (rolesW roles)), ("grants", .loc 1), ("rules", .w (rulesW rules))]]
      obtain ⟨c, hcc, rfl⟩ := List.mem_map.mp hc
      refine ⟨_, ec, ?_⟩
      repeat (first
          | refine t_seq ?_ | refine t_sset ?_ | refine t_sret ?_ | refine t_sexpr ?_ | refine t_snil ?_ | refine t_sif ?_ | refine t_asg ?_ | refine t_msub ?_
          | refine t_eV rfl ?_ | refine t_eC ?_ | refine t_e2 ?_ | refine t_e1 ?_ | refine t_eA ?_ | refine t_nil ?_ | refine t_cons ?_ | refine t_tup ?_ | refine t_lst ?_ | refine t_lstC ?_ | refine t_par ?_
          | refine t_tV ?_ | refine t_not ?_ | refine t_and ?_ | refine t_or ?_ | refine t_if ?_ | refine t_eand ?_ | refine t_eor ?_ | refine t_enot ?_ | refine t_eM ?_ | refine t_chain ?_ | refine t_ono ?_ | refine t_osome ?_ | refine t_sl ?_ | refine t_rcd ?_ | refine t_dicC ?_ | refine t_fld ?_ | refine t_yes ?_ | refine t_mscons ?_ | refine t_msnil ?_ | refine t_raise ?_ | refine t_par3 ?_ | refine t_unp ?_
          | refine t_callP ⟨rfl, ?_⟩ | refine t_callP ?_ | refine ⟨rfl, ?_⟩ | refine br_t rfl ?_ | refine br_f rfl ?_
          | refine ⟨_, rfl, ?_⟩)
      refine t_taken hy4 (by decide) (by decide) fun v5 ys5 a5 b5 hy5 => ?_
      obtain ⟨j, hj, ej⟩ := lst_at (xs := (["greater", "less"] : List Str).map W.str) a5 b5 [.lst ys5, .dic false (gsW gs), .rcd [("roles", .w (rolesW roles)), ("grants", .loc 1), ("rules", .w (rulesW rules))]]
      obtain ⟨j, hjj, rfl⟩ := List.mem_map.mp hj
      refine ⟨_, ej, ?_⟩
      repeat (first
          | refine t_seq ?_ | refine t_sset ?_ | refine t_sret ?_ | refine t_sexpr ?_ | refine t_snil ?_ | refine t_sif ?_ | refine t_asg ?_ | refine t_msub ?_
          | refine t_eV rfl ?_ | refine t_eC ?_ | refine t_e2 ?_ | refine t_e1 ?_ | refine t_eA ?_ | refine t_nil ?_ | refine t_cons ?_ | refine t_tup ?_ | refine t_lst ?_ | refine t_lstC ?_ | refine t_par ?_
          | refine t_tV ?_ | refine t_not ?_ | refine t_and ?_ | refine t_or ?_ | refine t_if ?_ | refine t_eand ?_ | refine t_eor ?_ | refine t_enot ?_ | refine t_eM ?_ | refine t_chain ?_ | refine t_ono ?_ | refine t_osome ?_ | refine t_sl ?_ | refine t_rcd ?_ | refine t_dicC ?_ | refine t_fld ?_ | refine t_yes ?_ | refine t_mscons ?_ | refine t_msnil ?_ | refine t_raise ?_ | refine t_par3 ?_ | refine t_unp ?_
          | refine t_callP ⟨rfl, ?_⟩ | refine t_callP ?_ | refine ⟨rfl, ?_⟩ | refine br_t rfl ?_ | refine br_f rfl ?_
          | refine ⟨_, rfl, ?_⟩)
      refine t_taken hy5 (by decide) (by decide) fun v6 ys6 a6 b6 hy6 => ?_
      repeat (first
          | refine t_seq ?_ | refine t_sset ?_ | refine t_sret ?_ | refine t_sexpr ?_ | refine t_snil ?_ | refine t_sif ?_ | refine t_asg ?_ | refine t_msub ?_
          | refine t_eV rfl ?_ | refine t_eC ?_ | refine t_e2 ?_ | refine t_e1 ?_ | refine t_eA ?_ | refine t_nil ?_ | refine t_cons ?_ | refine t_tup ?_ | refine t_lst ?_ | refine t_lstC ?_ | refine t_par ?_
          | refine t_tV ?_ | refine t_not ?_ | refine t_and ?_ | refine t_or ?_ | refine t_if ?_ | refine t_eand ?_ | refine t_eor ?_ | refine t_enot ?_ | refine t_eM ?_ | refine t_chain ?_ | refine t_ono ?_ | refine t_osome ?_ | refine t_sl ?_ | refine t_rcd ?_ | refine t_dicC ?_ | refine t_fld ?_ | refine t_yes ?_ | refine t_mscons ?_ | refine t_msnil ?_ | refine t_raise ?_ | refine t_par3 ?_ | refine t_unp ?_
          | refine t_callP ⟨rfl, ?_⟩ | refine t_callP ?_ | refine ⟨rfl, ?_⟩ | refine br_t rfl ?_ | refine br_f rfl ?_
          | refine ⟨_, rfl, ?_⟩)
      refine ⟨fun _ => ?_, fun _ => ?_⟩
      · repeat (first
          | refine t_seq ?_ | refine t_sset ?_ | refine t_sret ?_ | refine t_sexpr ?_ | refine t_snil ?_ | refine t_sif ?_ | refine t_asg ?_ | refine t_msub ?_
          | refine t_eV rfl ?_ | refine t_eC ?_ | refine t_e2 ?_ | refine t_e1 ?_ | refine t_eA ?_ | refine t_nil ?_ | refine t_cons ?_ | refine t_tup ?_ | refine t_lst ?_ | refine t_lstC ?_ | refine t_par ?_
          | refine t_tV ?_ | refine t_not ?_ | refine t_and ?_ | refine t_or ?_ | refine t_if ?_ | refine t_eand ?_ | refine t_eor ?_ | refine t_enot ?_ | refine t_eM ?_ | refine t_chain ?_ | refine t_ono ?_ | refine t_osome ?_ | refine t_sl ?_ | refine t_rcd ?_ | refine t_dicC ?_ | refine t_fld ?_ | refine t_yes ?_ | refine t_mscons ?_ | refine t_msnil ?_ | refine t_raise ?_ | refine t_par3 ?_ | refine t_unp ?_
          | refine t_callP ⟨rfl, ?_⟩ | refine t_callP ?_ | refine ⟨rfl, ?_⟩ | refine br_t rfl ?_ | refine br_f rfl ?_
          | refine ⟨_, rfl, ?_⟩)
        refine t_taken hy6 (by decide) (by decide) fun v7 ys7 a7 b7 hy7 => ?_
        obtain ⟨an, han, ea⟩ := lst_at (xs := (["full", "least"] : List Str).map W.str) a7 b7 [.lst ys7, .dic false (gsW gs), .rcd [("roles", .w (rolesW roles)), ("grants", .loc 1), ("rules", .w (rulesW rules)), ("close", .w (.str c)), ("join", .w (.str j))]]
        obtain ⟨an, hann, rfl⟩ := List.mem_map.mp han
        refine ⟨_, ea, ?_⟩
        repeat (first
            | refine t_seq ?_ | refine t_sset ?_ | refine t_sret ?_ | refine t_sexpr ?_ | refine t_snil ?_ | refine t_sif ?_ | refine t_asg ?_ | refine t_msub ?_
            | refine t_eV rfl ?_ | refine t_eC ?_ | refine t_e2 ?_ | refine t_e1 ?_ | refine t_eA ?_ | refine t_nil ?_ | refine t_cons ?_ | refine t_tup ?_ | refine t_lst ?_ | refine t_lstC ?_ | refine t_par ?_
            | refine t_tV ?_ | refine t_not ?_ | refine t_and ?_ | refine t_or ?_ | refine t_if ?_ | refine t_eand ?_ | refine t_eor ?_ | refine t_enot ?_ | refine t_eM ?_ | refine t_chain ?_ | refine t_ono ?_ | refine t_osome ?_ | refine t_sl ?_ | refine t_rcd ?_ | refine t_dicC ?_ | refine t_fld ?_ | refine t_yes ?_ | refine t_mscons ?_ | refine t_msnil ?_ | refine t_raise ?_ | refine t_par3 ?_ | refine t_unp ?_
            | refine t_callP ⟨rfl, ?_⟩ | refine t_callP ?_ | refine ⟨rfl, ?_⟩ | refine br_t rfl ?_ | refine br_f rfl ?_
            | refine ⟨_, rfl, ?_⟩)
        have hf : fits ((rules.map fun r => ruleW r.1 r.2).length + [ruleW [] an].length) = true := by unfold fits; simp; omega
        refine ⟨.w (rulesW (rules ++ [([], an)])), ?_, ?_⟩
        · show (if fits ((rules.map fun r => ruleW r.1 r.2).length + [ruleW [] an].length) then some _ else none) = _
          rw [hf]
          simp [rulesW]
          rfl
        · repeat (first
            | refine t_seq ?_ | refine t_sset ?_ | refine t_sret ?_ | refine t_sexpr ?_ | refine t_snil ?_ | refine t_sif ?_ | refine t_asg ?_ | refine t_msub ?_
            | refine t_eV rfl ?_ | refine t_eC ?_ | refine t_e2 ?_ | refine t_e1 ?_ | refine t_eA ?_ | refine t_nil ?_ | refine t_cons ?_ | refine t_tup ?_ | refine t_lst ?_ | refine t_lstC ?_ | refine t_par ?_
            | refine t_tV ?_ | refine t_not ?_ | refine t_and ?_ | refine t_or ?_ | refine t_if ?_ | refine t_eand ?_ | refine t_eor ?_ | refine t_enot ?_ | refine t_eM ?_ | refine t_chain ?_ | refine t_ono ?_ | refine t_osome ?_ | refine t_sl ?_ | refine t_rcd ?_ | refine t_dicC ?_ | refine t_fld ?_ | refine t_yes ?_ | refine t_mscons ?_ | refine t_msnil ?_ | refine t_raise ?_ | refine t_par3 ?_ | refine t_unp ?_
            | refine t_callP ⟨rfl, ?_⟩ | refine t_callP ?_ | refine ⟨rfl, ?_⟩ | refine br_t rfl ?_ | refine br_f rfl ?_
            | refine ⟨_, rfl, ?_⟩)
          exact ⟨roles, gs, rules ++ [([], an)], c, j, ys7, ⟨hr, hs', hk, fun r hr' => by
            rcases List.mem_append.mp hr' with h | h
            · exact h3 r h
            · rw [List.mem_singleton.mp h]
              refine ⟨by simp, by simp, ?_⟩
              simp only [List.mem_cons, List.not_mem_nil, or_false] at hann
              rcases hann with rfl | rfl <;> simp [answersL], by simp; omega, hcc, hjj⟩, hy7, rfl, rfl⟩
      · repeat (first
          | refine t_seq ?_ | refine t_sset ?_ | refine t_sret ?_ | refine t_sexpr ?_ | refine t_snil ?_ | refine t_sif ?_ | refine t_asg ?_ | refine t_msub ?_
          | refine t_eV rfl ?_ | refine t_eC ?_ | refine t_e2 ?_ | refine t_e1 ?_ | refine t_eA ?_ | refine t_nil ?_ | refine t_cons ?_ | refine t_tup ?_ | refine t_lst ?_ | refine t_lstC ?_ | refine t_par ?_
          | refine t_tV ?_ | refine t_not ?_ | refine t_and ?_ | refine t_or ?_ | refine t_if ?_ | refine t_eand ?_ | refine t_eor ?_ | refine t_enot ?_ | refine t_eM ?_ | refine t_chain ?_ | refine t_ono ?_ | refine t_osome ?_ | refine t_sl ?_ | refine t_rcd ?_ | refine t_dicC ?_ | refine t_fld ?_ | refine t_yes ?_ | refine t_mscons ?_ | refine t_msnil ?_ | refine t_raise ?_ | refine t_par3 ?_ | refine t_unp ?_
          | refine t_callP ⟨rfl, ?_⟩ | refine t_callP ?_ | refine ⟨rfl, ?_⟩ | refine br_t rfl ?_ | refine br_f rfl ?_
          | refine ⟨_, rfl, ?_⟩)
        exact ⟨roles, gs, rules, c, j, ys6, ⟨hr, hs', hk, h3, by omega, hcc, hjj⟩, hy6, rfl, rfl⟩
theorem t_drawn {E : Exc → Sto → Prop} {ns : List Int} {xs : List W} {rest : Sto} {Q : R → Sto → Prop} (hx : Row ns xs) (h : ∀ roles gs rules c j ys, DrawnOk roles gs rules c j → Row ns ys → Q (.w (drawnW roles gs rules c j)) (.lst ys :: rest)) : Go E (callP f__law_drawn [.loc 0]) (.lst xs :: rest) Q :=
  t_call rfl ((drawn_run hx).imp2 (fun r st ⟨roles, gs, rules, c, j, ys, hd, b, e, e'⟩ => by subst e e'; exact ⟨ys, _, _, rfl, rfl, h roles gs rules c j ys hd b⟩) fun _ _ z => z.elim)
end Iv.T
end
section
set_option Elab.async false
set_option linter.all false
set_option maxRecDepth 100000
set_option maxHeartbeats 4000000
namespace Iv.T
open PySem PySem.Spec PyProof.Rows L2
/-! ### the program's checks -/
theorem in_strs (g : Str) (xs : List Str) (st : Sto) : inR2 st (.w (.str g)) (.w (.tup (xs.map W.str))) = some (.w (.bl (decide (g ∈ xs)))) := by
  have h1 : (xs.map W.str).all flatW = true := by simp [flatW]
  have h2 : ((xs.map W.str).any fun y => W.eqv y (.str g)) = decide (g ∈ xs) := by
    induction xs with
    | nil => rfl
    | cons x r ih =>
      have e : W.eqv (.str x) (.str g) = decide (g = x) := by
        show (x == g) = _
        rw [show (x == g) = decide (x = g) from rfl]
        by_cases h : x = g
        · simp [h]
        · simp [h, Ne.symm h]
      rw [List.map_cons, List.any_cons, e, ih (by simp [flatW])]
      by_cases h : g = x <;> simp [h]
  show ((inItems (.str g) (xs.map W.str)).map fun b => R.w (.bl b)) = _
  unfold inItems
  rw [h1]
  simp only [flatW, Bool.and_self, if_true, h2]
  rfl
section
variable {E : Exc → Sto → Prop} {ns : List Int} {ys : List W} {rest : Sto} {Q : R → Sto → Prop}
theorem t_one_of {g : Str} {xs : List Str} (hg : g ∈ xs) (h : Q (.w (.bl true)) (.lst ys :: rest)) : Go E (callP f_is_one_of [.w (.str g), .w (.tup (xs.map W.str))]) (.lst ys :: rest) Q := by
  refine t_call rfl (t_runB ?_)
  unfold g_is_one_of
  repeat (first
      | refine t_seq ?_ | refine t_sset ?_ | refine t_sret ?_ | refine t_sexpr ?_ | refine t_snil ?_ | refine t_sif ?_ | refine t_asg ?_ | refine t_msub ?_
      | refine t_eV rfl ?_ | refine t_eC ?_ | refine t_e2 ?_ | refine t_e1 ?_ | refine t_eA ?_ | refine t_nil ?_ | refine t_cons ?_ | refine t_tup ?_ | refine t_lst ?_ | refine t_lstC ?_ | refine t_par ?_
      | refine t_tV ?_ | refine t_not ?_ | refine t_and ?_ | refine t_or ?_ | refine t_if ?_ | refine t_eand ?_ | refine t_eor ?_ | refine t_enot ?_ | refine t_eM ?_ | refine t_chain ?_ | refine t_ono ?_ | refine t_osome ?_ | refine t_sl ?_ | refine t_rcd ?_ | refine t_dicC ?_ | refine t_fld ?_ | refine t_yes ?_ | refine t_mscons ?_ | refine t_msnil ?_ | refine t_raise ?_ | refine t_par3 ?_ | refine t_unp ?_
      | refine t_callP ⟨rfl, ?_⟩ | refine t_callP ?_ | refine ⟨rfl, ?_⟩ | refine br_t rfl ?_ | refine br_f rfl ?_
      | refine ⟨_, rfl, ?_⟩)
  refine ⟨_, in_strs g xs _, ?_⟩
  rw [decide_eq_true hg]
  exact ⟨ys, [], _, rfl, rfl, h⟩
theorem t_integer {i : Int} (h : Q (.w (.bl true)) (.lst ys :: rest)) : Go E (callP f_is_integer [.w (.int i)]) (.lst ys :: rest) Q := by
  refine t_call rfl (t_runB ?_)
  unfold g_is_integer
  repeat (first
      | refine t_seq ?_ | refine t_sset ?_ | refine t_sret ?_ | refine t_sexpr ?_ | refine t_snil ?_ | refine t_sif ?_ | refine t_asg ?_ | refine t_msub ?_
      | refine t_eV rfl ?_ | refine t_eC ?_ | refine t_e2 ?_ | refine t_e1 ?_ | refine t_eA ?_ | refine t_nil ?_ | refine t_cons ?_ | refine t_tup ?_ | refine t_lst ?_ | refine t_lstC ?_ | refine t_par ?_
      | refine t_tV ?_ | refine t_not ?_ | refine t_and ?_ | refine t_or ?_ | refine t_if ?_ | refine t_eand ?_ | refine t_eor ?_ | refine t_enot ?_ | refine t_eM ?_ | refine t_chain ?_ | refine t_ono ?_ | refine t_osome ?_ | refine t_sl ?_ | refine t_rcd ?_ | refine t_dicC ?_ | refine t_fld ?_ | refine t_yes ?_ | refine t_mscons ?_ | refine t_msnil ?_ | refine t_raise ?_ | refine t_par3 ?_ | refine t_unp ?_
      | refine t_callP ⟨rfl, ?_⟩ | refine t_callP ?_ | refine ⟨rfl, ?_⟩ | refine br_t rfl ?_ | refine br_f rfl ?_
      | refine ⟨_, rfl, ?_⟩)
  exact ⟨ys, [], _, rfl, rfl, h⟩
theorem t_is_kind {roles : List Str} {x : W} (hx : Kind roles x) (h : Q (.w (.bl true)) (.lst ys :: rest)) : Go E (callP f_is_kind [.w x, .w (rolesW roles)]) (.lst ys :: rest) Q := by
  obtain ⟨g, u, d, b, rfl, hg, ⟨u0, u1⟩, ⟨d0, d1⟩⟩ := hx
  refine t_call rfl (t_runB ?_)
  unfold g_is_kind
  repeat (first
      | refine t_seq ?_ | refine t_sset ?_ | refine t_sret ?_ | refine t_sexpr ?_ | refine t_snil ?_ | refine t_sif ?_ | refine t_asg ?_ | refine t_msub ?_
      | refine t_eV rfl ?_ | refine t_eC ?_ | refine t_e2 ?_ | refine t_e1 ?_ | refine t_eA ?_ | refine t_nil ?_ | refine t_cons ?_ | refine t_tup ?_ | refine t_lst ?_ | refine t_lstC ?_ | refine t_par ?_
      | refine t_tV ?_ | refine t_not ?_ | refine t_and ?_ | refine t_or ?_ | refine t_if ?_ | refine t_eand ?_ | refine t_eor ?_ | refine t_enot ?_ | refine t_eM ?_ | refine t_chain ?_ | refine t_ono ?_ | refine t_osome ?_ | refine t_sl ?_ | refine t_rcd ?_ | refine t_dicC ?_ | refine t_fld ?_ | refine t_yes ?_ | refine t_mscons ?_ | refine t_msnil ?_ | refine t_raise ?_ | refine t_par3 ?_ | refine t_unp ?_
      | refine t_callP ⟨rfl, ?_⟩ | refine t_callP ?_ | refine ⟨rfl, ?_⟩ | refine br_t rfl ?_ | refine br_f rfl ?_
      | refine ⟨_, rfl, ?_⟩)
  refine t_one_of hg ?_
  repeat (first
      | refine t_seq ?_ | refine t_sset ?_ | refine t_sret ?_ | refine t_sexpr ?_ | refine t_snil ?_ | refine t_sif ?_ | refine t_asg ?_ | refine t_msub ?_
      | refine t_eV rfl ?_ | refine t_eC ?_ | refine t_e2 ?_ | refine t_e1 ?_ | refine t_eA ?_ | refine t_nil ?_ | refine t_cons ?_ | refine t_tup ?_ | refine t_lst ?_ | refine t_lstC ?_ | refine t_par ?_
      | refine t_tV ?_ | refine t_not ?_ | refine t_and ?_ | refine t_or ?_ | refine t_if ?_ | refine t_eand ?_ | refine t_eor ?_ | refine t_enot ?_ | refine t_eM ?_ | refine t_chain ?_ | refine t_ono ?_ | refine t_osome ?_ | refine t_sl ?_ | refine t_rcd ?_ | refine t_dicC ?_ | refine t_fld ?_ | refine t_yes ?_ | refine t_mscons ?_ | refine t_msnil ?_ | refine t_raise ?_ | refine t_par3 ?_ | refine t_unp ?_
      | refine t_callP ⟨rfl, ?_⟩ | refine t_callP ?_ | refine ⟨rfl, ?_⟩ | refine br_t rfl ?_ | refine br_f rfl ?_
      | refine ⟨_, rfl, ?_⟩)
  refine br_t (decide_eq_true u0) ?_
  repeat (first
      | refine t_seq ?_ | refine t_sset ?_ | refine t_sret ?_ | refine t_sexpr ?_ | refine t_snil ?_ | refine t_sif ?_ | refine t_asg ?_ | refine t_msub ?_
      | refine t_eV rfl ?_ | refine t_eC ?_ | refine t_e2 ?_ | refine t_e1 ?_ | refine t_eA ?_ | refine t_nil ?_ | refine t_cons ?_ | refine t_tup ?_ | refine t_lst ?_ | refine t_lstC ?_ | refine t_par ?_
      | refine t_tV ?_ | refine t_not ?_ | refine t_and ?_ | refine t_or ?_ | refine t_if ?_ | refine t_eand ?_ | refine t_eor ?_ | refine t_enot ?_ | refine t_eM ?_ | refine t_chain ?_ | refine t_ono ?_ | refine t_osome ?_ | refine t_sl ?_ | refine t_rcd ?_ | refine t_dicC ?_ | refine t_fld ?_ | refine t_yes ?_ | refine t_mscons ?_ | refine t_msnil ?_ | refine t_raise ?_ | refine t_par3 ?_ | refine t_unp ?_
      | refine t_callP ⟨rfl, ?_⟩ | refine t_callP ?_ | refine ⟨rfl, ?_⟩ | refine br_t rfl ?_ | refine br_f rfl ?_
      | refine ⟨_, rfl, ?_⟩)
  refine br_t (decide_eq_true (by omega)) ?_
  repeat (first
      | refine t_seq ?_ | refine t_sset ?_ | refine t_sret ?_ | refine t_sexpr ?_ | refine t_snil ?_ | refine t_sif ?_ | refine t_asg ?_ | refine t_msub ?_
      | refine t_eV rfl ?_ | refine t_eC ?_ | refine t_e2 ?_ | refine t_e1 ?_ | refine t_eA ?_ | refine t_nil ?_ | refine t_cons ?_ | refine t_tup ?_ | refine t_lst ?_ | refine t_lstC ?_ | refine t_par ?_
      | refine t_tV ?_ | refine t_not ?_ | refine t_and ?_ | refine t_or ?_ | refine t_if ?_ | refine t_eand ?_ | refine t_eor ?_ | refine t_enot ?_ | refine t_eM ?_ | refine t_chain ?_ | refine t_ono ?_ | refine t_osome ?_ | refine t_sl ?_ | refine t_rcd ?_ | refine t_dicC ?_ | refine t_fld ?_ | refine t_yes ?_ | refine t_mscons ?_ | refine t_msnil ?_ | refine t_raise ?_ | refine t_par3 ?_ | refine t_unp ?_
      | refine t_callP ⟨rfl, ?_⟩ | refine t_callP ?_ | refine ⟨rfl, ?_⟩ | refine br_t rfl ?_ | refine br_f rfl ?_
      | refine ⟨_, rfl, ?_⟩)
  refine br_t (decide_eq_true d0) ?_
  repeat (first
      | refine t_seq ?_ | refine t_sset ?_ | refine t_sret ?_ | refine t_sexpr ?_ | refine t_snil ?_ | refine t_sif ?_ | refine t_asg ?_ | refine t_msub ?_
      | refine t_eV rfl ?_ | refine t_eC ?_ | refine t_e2 ?_ | refine t_e1 ?_ | refine t_eA ?_ | refine t_nil ?_ | refine t_cons ?_ | refine t_tup ?_ | refine t_lst ?_ | refine t_lstC ?_ | refine t_par ?_
      | refine t_tV ?_ | refine t_not ?_ | refine t_and ?_ | refine t_or ?_ | refine t_if ?_ | refine t_eand ?_ | refine t_eor ?_ | refine t_enot ?_ | refine t_eM ?_ | refine t_chain ?_ | refine t_ono ?_ | refine t_osome ?_ | refine t_sl ?_ | refine t_rcd ?_ | refine t_dicC ?_ | refine t_fld ?_ | refine t_yes ?_ | refine t_mscons ?_ | refine t_msnil ?_ | refine t_raise ?_ | refine t_par3 ?_ | refine t_unp ?_
      | refine t_callP ⟨rfl, ?_⟩ | refine t_callP ?_ | refine ⟨rfl, ?_⟩ | refine br_t rfl ?_ | refine br_f rfl ?_
      | refine ⟨_, rfl, ?_⟩)
  rw [decide_eq_true (show d ≤ 2 by omega)]
  exact ⟨ys, [], _, rfl, rfl, h⟩
theorem t_are_roles {roles : List Str} (hr : roles ∈ rolesL) (h : Q (.w (.bl true)) (.lst ys :: rest)) : Go E (callP f_are_roles [.w (rolesW roles)]) (.lst ys :: rest) Q := by
  refine .of (a := .w (.bl true)) (st' := .lst ys :: rest) ?_ h
  simp only [rolesL, List.mem_cons, List.not_mem_nil, or_false] at hr
  rcases hr with rfl | rfl | rfl | rfl <;> kernel_rfl
/-- all(..) of truths -/
theorem all_true (n : Nat) (st : Sto) : allR st [.w (.lst (List.replicate n (.bl true)))] = some (.w (.bl true)) := by
  have h : mapO blW (List.replicate n (.bl true)) = some (List.replicate n true) := by
    induction n with
    | zero => rfl
    | succ n ih => rw [List.replicate_succ, List.replicate_succ]; simp only [mapO, ih]; rfl
  show ((mapO blW (List.replicate n (.bl true))).map fun bs => R.w (.bl (bs.all id))) = _
  rw [h]
  simp
theorem fm_true {α : Type} (L : List α) : L.filterMap (fun _ => some (W.bl true)) = List.replicate L.length (.bl true) := by
  induction L with
  | nil => rfl
  | cons x r ih => simp [ih, List.replicate_succ]
theorem t_are_kinds {roles : List Str} {ks : List W} (hr : roles ∈ rolesL) (hk : Kinds roles ks) (h : Q (.w (.bl true)) (.lst ys :: rest)) : Go E (callP f_are_kinds [.w (.tup ks), .w (rolesW roles)]) (.lst ys :: rest) Q := by
  have hl : ks.length = 1 ∨ ks.length = 2 := by
    rcases hk with ⟨k, rfl, _⟩ | ⟨k1, k2, rfl, _⟩ <;> simp
  have hall : ∀ k ∈ ks, Kind roles k := by
    rcases hk with ⟨k, rfl, h1⟩ | ⟨k1, k2, rfl, h1, h2, _⟩
    · simpa using h1
    · simpa using ⟨h1, h2⟩
  have key : ∀ k ∈ ks, keyOk k = true := fun k hk' => by
    obtain ⟨g, u, d, b, rfl, _⟩ := hall k hk'
    rfl
  have dca : (dcAll true ks).length = ks.length := by
    rcases hk with ⟨k, rfl, h1⟩ | ⟨k1, k2, rfl, h1, h2, hne⟩
    · rfl
    · obtain ⟨g, u, d, b, rfl, _⟩ := h1
      obtain ⟨g', u', d', b', rfl, _⟩ := h2
      have : nkEq (kindW g u d b) (kindW g' u' d' b') = false := by
        cases hq : nkEq (kindW g u d b) (kindW g' u' d' b') with
        | false => rfl
        | true =>
          have e : NestedKey.tup [.text g, .num u, .num d, .num (if b then 1 else 0)] = .tup [.text g', .num u', .num d', .num (if b' then 1 else 0)] := of_decide_eq_true hq
          simp only [NestedKey.tup.injEq, List.cons.injEq, NestedKey.text.injEq, NestedKey.num.injEq, and_true] at e
          obtain ⟨rfl, rfl, rfl, e4⟩ := e
          have eb : b = b' := by cases b <;> cases b' <;> simp_all
          subst eb
          simp [kindW, W.eqv, W.eqvs] at hne
      simp [dcAll, putN, this]
  refine t_call rfl (t_runB ?_)
  unfold g_are_kinds
  repeat (first
      | refine t_seq ?_ | refine t_sset ?_ | refine t_sret ?_ | refine t_sexpr ?_ | refine t_snil ?_ | refine t_sif ?_ | refine t_asg ?_ | refine t_msub ?_
      | refine t_eV rfl ?_ | refine t_eC ?_ | refine t_e2 ?_ | refine t_e1 ?_ | refine t_eA ?_ | refine t_nil ?_ | refine t_cons ?_ | refine t_tup ?_ | refine t_lst ?_ | refine t_lstC ?_ | refine t_par ?_
      | refine t_tV ?_ | refine t_not ?_ | refine t_and ?_ | refine t_or ?_ | refine t_if ?_ | refine t_eand ?_ | refine t_eor ?_ | refine t_enot ?_ | refine t_eM ?_ | refine t_chain ?_ | refine t_ono ?_ | refine t_osome ?_ | refine t_sl ?_ | refine t_rcd ?_ | refine t_dicC ?_ | refine t_fld ?_ | refine t_yes ?_ | refine t_mscons ?_ | refine t_msnil ?_ | refine t_raise ?_ | refine t_par3 ?_ | refine t_unp ?_
      | refine t_callP ⟨rfl, ?_⟩ | refine t_callP ?_ | refine ⟨rfl, ?_⟩ | refine br_t rfl ?_ | refine br_f rfl ?_
      | refine ⟨_, rfl, ?_⟩)
  refine br_t (decide_eq_true (by omega)) ?_
  repeat (first
      | refine t_seq ?_ | refine t_sset ?_ | refine t_sret ?_ | refine t_sexpr ?_ | refine t_snil ?_ | refine t_sif ?_ | refine t_asg ?_ | refine t_msub ?_
      | refine t_eV rfl ?_ | refine t_eC ?_ | refine t_e2 ?_ | refine t_e1 ?_ | refine t_eA ?_ | refine t_nil ?_ | refine t_cons ?_ | refine t_tup ?_ | refine t_lst ?_ | refine t_lstC ?_ | refine t_par ?_
      | refine t_tV ?_ | refine t_not ?_ | refine t_and ?_ | refine t_or ?_ | refine t_if ?_ | refine t_eand ?_ | refine t_eor ?_ | refine t_enot ?_ | refine t_eM ?_ | refine t_chain ?_ | refine t_ono ?_ | refine t_osome ?_ | refine t_sl ?_ | refine t_rcd ?_ | refine t_dicC ?_ | refine t_fld ?_ | refine t_yes ?_ | refine t_mscons ?_ | refine t_msnil ?_ | refine t_raise ?_ | refine t_par3 ?_ | refine t_unp ?_
      | refine t_callP ⟨rfl, ?_⟩ | refine t_callP ?_ | refine ⟨rfl, ?_⟩ | refine br_t rfl ?_ | refine br_f rfl ?_
      | refine ⟨_, rfl, ?_⟩)
  refine br_f (by rw [decide_eq_true (show (ks.length : Int) ≤ 3 by omega)]; rfl) ?_
  repeat (first
      | refine t_seq ?_ | refine t_sset ?_ | refine t_sret ?_ | refine t_sexpr ?_ | refine t_snil ?_ | refine t_sif ?_ | refine t_asg ?_ | refine t_msub ?_
      | refine t_eV rfl ?_ | refine t_eC ?_ | refine t_e2 ?_ | refine t_e1 ?_ | refine t_eA ?_ | refine t_nil ?_ | refine t_cons ?_ | refine t_tup ?_ | refine t_lst ?_ | refine t_lstC ?_ | refine t_par ?_
      | refine t_tV ?_ | refine t_not ?_ | refine t_and ?_ | refine t_or ?_ | refine t_if ?_ | refine t_eand ?_ | refine t_eor ?_ | refine t_enot ?_ | refine t_eM ?_ | refine t_chain ?_ | refine t_ono ?_ | refine t_osome ?_ | refine t_sl ?_ | refine t_rcd ?_ | refine t_dicC ?_ | refine t_fld ?_ | refine t_yes ?_ | refine t_mscons ?_ | refine t_msnil ?_ | refine t_raise ?_ | refine t_par3 ?_ | refine t_unp ?_
      | refine t_callP ⟨rfl, ?_⟩ | refine t_callP ?_ | refine ⟨rfl, ?_⟩ | refine br_t rfl ?_ | refine br_f rfl ?_
      | refine ⟨_, rfl, ?_⟩)
  refine t_eLc (t_lcPure (t_itA_tup (xs := ks) (t_eV rfl ⟨rfl, fun it ov => ⟨ks, ov, by omega, fun _ => some (.bl true), fun x hx => ⟨_, rfl, ?_⟩, ?_⟩⟩)))
  · refine t_yes (br_t rfl ?_)
    repeat (first
        | refine t_seq ?_ | refine t_sset ?_ | refine t_sret ?_ | refine t_sexpr ?_ | refine t_snil ?_ | refine t_sif ?_ | refine t_asg ?_ | refine t_msub ?_
        | refine t_eV rfl ?_ | refine t_eC ?_ | refine t_e2 ?_ | refine t_e1 ?_ | refine t_eA ?_ | refine t_nil ?_ | refine t_cons ?_ | refine t_tup ?_ | refine t_lst ?_ | refine t_lstC ?_ | refine t_par ?_
        | refine t_tV ?_ | refine t_not ?_ | refine t_and ?_ | refine t_or ?_ | refine t_if ?_ | refine t_eand ?_ | refine t_eor ?_ | refine t_enot ?_ | refine t_eM ?_ | refine t_chain ?_ | refine t_ono ?_ | refine t_osome ?_ | refine t_sl ?_ | refine t_rcd ?_ | refine t_dicC ?_ | refine t_fld ?_ | refine t_yes ?_ | refine t_mscons ?_ | refine t_msnil ?_ | refine t_raise ?_ | refine t_par3 ?_ | refine t_unp ?_
        | refine t_callP ⟨rfl, ?_⟩ | refine t_callP ?_ | refine ⟨rfl, ?_⟩ | refine br_t rfl ?_ | refine br_f rfl ?_
        | refine ⟨_, rfl, ?_⟩)
    refine t_is_kind (hall x hx) ?_
    exact ⟨rfl, _, rfl, rfl⟩
  · rw [fm_true]
    repeat (first
        | refine t_seq ?_ | refine t_sset ?_ | refine t_sret ?_ | refine t_sexpr ?_ | refine t_snil ?_ | refine t_sif ?_ | refine t_asg ?_ | refine t_msub ?_
        | refine t_eV rfl ?_ | refine t_eC ?_ | refine t_e2 ?_ | refine t_e1 ?_ | refine t_eA ?_ | refine t_nil ?_ | refine t_cons ?_ | refine t_tup ?_ | refine t_lst ?_ | refine t_lstC ?_ | refine t_par ?_
        | refine t_tV ?_ | refine t_not ?_ | refine t_and ?_ | refine t_or ?_ | refine t_if ?_ | refine t_eand ?_ | refine t_eor ?_ | refine t_enot ?_ | refine t_eM ?_ | refine t_chain ?_ | refine t_ono ?_ | refine t_osome ?_ | refine t_sl ?_ | refine t_rcd ?_ | refine t_dicC ?_ | refine t_fld ?_ | refine t_yes ?_ | refine t_mscons ?_ | refine t_msnil ?_ | refine t_raise ?_ | refine t_par3 ?_ | refine t_unp ?_
        | refine t_callP ⟨rfl, ?_⟩ | refine t_callP ?_ | refine ⟨rfl, ?_⟩ | refine br_t rfl ?_ | refine br_f rfl ?_
        | refine ⟨_, rfl, ?_⟩)
    refine ⟨_, all_true _ _, ?_⟩
    refine ⟨_, rfl, br_t rfl ?_⟩
    have hd : Go E0 (eDcT true (eV 0) (List.map some [R.w (W.tup ks), R.w (rolesW roles)] ++ List.replicate (3 - [R.w (W.tup ks), R.w (rolesW roles)].length) none)) [.lst ys] fun r st => r = .loc 1 ∧ st = [.lst ys, .dic true (dcAll true ks)] := by
      have hc : (ks.all keyOk && fits ks.length) = true := by
        rw [List.all_eq_true.mpr key]
        unfold fits
        simp
        omega
      refine .of (a := .loc 1) (st' := [.lst ys, .dic true (dcAll true ks)]) ?_ ⟨rfl, rfl⟩
      show (if ks.all keyOk && fits ks.length then newC (.dic true (dcAll true ks)) else fail) [.lst ys] = _
      rw [if_pos hc]
      rfl
    refine t_e2 (t_eA (t_cons ((hd.imp2 (fun r st hh => ?_) fun _ _ z => z.elim))))
    obtain ⟨rfl, rfl⟩ := hh
    repeat (first
        | refine t_seq ?_ | refine t_sset ?_ | refine t_sret ?_ | refine t_sexpr ?_ | refine t_snil ?_ | refine t_sif ?_ | refine t_asg ?_ | refine t_msub ?_
        | refine t_eV rfl ?_ | refine t_eC ?_ | refine t_e2 ?_ | refine t_e1 ?_ | refine t_eA ?_ | refine t_nil ?_ | refine t_cons ?_ | refine t_tup ?_ | refine t_lst ?_ | refine t_lstC ?_ | refine t_par ?_
        | refine t_tV ?_ | refine t_not ?_ | refine t_and ?_ | refine t_or ?_ | refine t_if ?_ | refine t_eand ?_ | refine t_eor ?_ | refine t_enot ?_ | refine t_eM ?_ | refine t_chain ?_ | refine t_ono ?_ | refine t_osome ?_ | refine t_sl ?_ | refine t_rcd ?_ | refine t_dicC ?_ | refine t_fld ?_ | refine t_yes ?_ | refine t_mscons ?_ | refine t_msnil ?_ | refine t_raise ?_ | refine t_par3 ?_ | refine t_unp ?_
        | refine t_callP ⟨rfl, ?_⟩ | refine t_callP ?_ | refine ⟨rfl, ?_⟩ | refine br_t rfl ?_ | refine br_f rfl ?_
        | refine ⟨_, rfl, ?_⟩)
    refine ⟨ys, _, _, rfl, rfl, ?_⟩
    have e : W.eqv (.int (dcAll true ks).length) (.int ks.length) = true := by
      rw [dca]
      simp [W.eqv]
    show Q (.w (.bl (W.eqv (.int (dcAll true ks).length) (.int ks.length)))) _
    rw [e]
    exact h
theorem gsW_find {gs : List (Str × List W)} {role : Str} {ks : List W} (h : (role, ks) ∈ gs) (nd : (gs.map (·.1)).Nodup) : findD (gsW gs) (.str role) = some (.tup ks) := by
  induction gs with
  | nil => cases h
  | cons p r ih =>
    unfold findD gsW
    rw [List.map_cons, List.find?_cons]
    rw [List.map_cons, List.nodup_cons] at nd
    rcases List.mem_cons.mp h with e | e
    · subst e
      simp [keyEq]
    · have hne : p.1 ≠ role := fun z => nd.1 (List.mem_map.mpr ⟨_, e, z.symm⟩)
      simp only [keyEq, hne, decide_false]
      exact ih e nd.2
theorem gsW_none {gs : List (Str × List W)} {role : Str} (h : role ∉ gs.map (·.1)) : findD (gsW gs) (.str role) = none := by
  unfold findD gsW
  rw [Option.map_eq_none_iff, List.find?_eq_none]
  intro p hp
  obtain ⟨q, hq, rfl⟩ := List.mem_map.mp hp
  simp only [keyEq, decide_eq_true_eq]
  exact fun z => h (List.mem_map.mpr ⟨q, hq, z⟩)
theorem in_gs (gs : List (Str × List W)) (role : Str) (st : Sto) : inR2 st (.w (.str role)) (.w (.dic false (gsW gs))) = some (.w (.bl (findD (gsW gs) (.str role)).isSome)) := rfl
structure GsOk (roles : List Str) (gs : List (Str × List W)) : Prop where
  mem : ∀ p ∈ gs, p.1 ∈ roles
  nd : (gs.map (·.1)).Nodup
  ks : ∀ p ∈ gs, Kinds roles p.2
  len : gs.length ≤ 4
theorem t_check_grants {roles : List Str} {gs : List (Str × List W)} (hr : roles ∈ rolesL) (hg : GsOk roles gs) (h : Q (.w .non) (.lst ys :: rest)) : Go E (callP f_check_grants [.w (.dic false (gsW gs)), .w (rolesW roles)]) (.lst ys :: rest) Q := by
  obtain ⟨hs, ndg, hk, hgl⟩ := hg
  refine t_call rfl (t_runB ?_)
  unfold g_check_grants
  repeat (first
      | refine t_seq ?_ | refine t_sset ?_ | refine t_sret ?_ | refine t_sexpr ?_ | refine t_snil ?_ | refine t_sif ?_ | refine t_asg ?_ | refine t_msub ?_
      | refine t_eV rfl ?_ | refine t_eC ?_ | refine t_e2 ?_ | refine t_e1 ?_ | refine t_eA ?_ | refine t_nil ?_ | refine t_cons ?_ | refine t_tup ?_ | refine t_lst ?_ | refine t_lstC ?_ | refine t_par ?_
      | refine t_tV ?_ | refine t_not ?_ | refine t_and ?_ | refine t_or ?_ | refine t_if ?_ | refine t_eand ?_ | refine t_eor ?_ | refine t_enot ?_ | refine t_eM ?_ | refine t_chain ?_ | refine t_ono ?_ | refine t_osome ?_ | refine t_sl ?_ | refine t_rcd ?_ | refine t_dicC ?_ | refine t_fld ?_ | refine t_yes ?_ | refine t_mscons ?_ | refine t_msnil ?_ | refine t_raise ?_ | refine t_par3 ?_ | refine t_unp ?_
      | refine t_callP ⟨rfl, ?_⟩ | refine t_callP ?_ | refine ⟨rfl, ?_⟩ | refine br_t rfl ?_ | refine br_f rfl ?_
      | refine ⟨_, rfl, ?_⟩)
  refine t_eLc (t_lcPure (t_itA_dic (kvs := gsW gs) (t_eV rfl ⟨rfl, fun it ov => ⟨_, ov, by simp [gsW]; omega, fun _ => some (.bl true), fun x hx => ⟨_, rfl, ?_⟩, ?_⟩⟩)))
  · simp only [gsW, List.map_map, List.mem_map, Function.comp] at hx
    obtain ⟨p, hp, rfl⟩ := hx
    refine t_yes (br_t rfl ?_)
    repeat (first
        | refine t_seq ?_ | refine t_sset ?_ | refine t_sret ?_ | refine t_sexpr ?_ | refine t_snil ?_ | refine t_sif ?_ | refine t_asg ?_ | refine t_msub ?_
        | refine t_eV rfl ?_ | refine t_eC ?_ | refine t_e2 ?_ | refine t_e1 ?_ | refine t_eA ?_ | refine t_nil ?_ | refine t_cons ?_ | refine t_tup ?_ | refine t_lst ?_ | refine t_lstC ?_ | refine t_par ?_
        | refine t_tV ?_ | refine t_not ?_ | refine t_and ?_ | refine t_or ?_ | refine t_if ?_ | refine t_eand ?_ | refine t_eor ?_ | refine t_enot ?_ | refine t_eM ?_ | refine t_chain ?_ | refine t_ono ?_ | refine t_osome ?_ | refine t_sl ?_ | refine t_rcd ?_ | refine t_dicC ?_ | refine t_fld ?_ | refine t_yes ?_ | refine t_mscons ?_ | refine t_msnil ?_ | refine t_raise ?_ | refine t_par3 ?_ | refine t_unp ?_
        | refine t_callP ⟨rfl, ?_⟩ | refine t_callP ?_ | refine ⟨rfl, ?_⟩ | refine br_t rfl ?_ | refine br_f rfl ?_
        | refine ⟨_, rfl, ?_⟩)
    refine t_one_of (xs := roles) (hs p hp) ?_
    exact ⟨rfl, _, rfl, rfl⟩
  · rw [fm_true]
    repeat (first
        | refine t_seq ?_ | refine t_sset ?_ | refine t_sret ?_ | refine t_sexpr ?_ | refine t_snil ?_ | refine t_sif ?_ | refine t_asg ?_ | refine t_msub ?_
        | refine t_eV rfl ?_ | refine t_eC ?_ | refine t_e2 ?_ | refine t_e1 ?_ | refine t_eA ?_ | refine t_nil ?_ | refine t_cons ?_ | refine t_tup ?_ | refine t_lst ?_ | refine t_lstC ?_ | refine t_par ?_
        | refine t_tV ?_ | refine t_not ?_ | refine t_and ?_ | refine t_or ?_ | refine t_if ?_ | refine t_eand ?_ | refine t_eor ?_ | refine t_enot ?_ | refine t_eM ?_ | refine t_chain ?_ | refine t_ono ?_ | refine t_osome ?_ | refine t_sl ?_ | refine t_rcd ?_ | refine t_dicC ?_ | refine t_fld ?_ | refine t_yes ?_ | refine t_mscons ?_ | refine t_msnil ?_ | refine t_raise ?_ | refine t_par3 ?_ | refine t_unp ?_
        | refine t_callP ⟨rfl, ?_⟩ | refine t_callP ?_ | refine ⟨rfl, ?_⟩ | refine br_t rfl ?_ | refine br_f rfl ?_
        | refine ⟨_, rfl, ?_⟩)
    refine ⟨_, all_true _ _, ?_⟩
    repeat (first
        | refine t_seq ?_ | refine t_sset ?_ | refine t_sret ?_ | refine t_sexpr ?_ | refine t_snil ?_ | refine t_sif ?_ | refine t_asg ?_ | refine t_msub ?_
        | refine t_eV rfl ?_ | refine t_eC ?_ | refine t_e2 ?_ | refine t_e1 ?_ | refine t_eA ?_ | refine t_nil ?_ | refine t_cons ?_ | refine t_tup ?_ | refine t_lst ?_ | refine t_lstC ?_ | refine t_par ?_
        | refine t_tV ?_ | refine t_not ?_ | refine t_and ?_ | refine t_or ?_ | refine t_if ?_ | refine t_eand ?_ | refine t_eor ?_ | refine t_enot ?_ | refine t_eM ?_ | refine t_chain ?_ | refine t_ono ?_ | refine t_osome ?_ | refine t_sl ?_ | refine t_rcd ?_ | refine t_dicC ?_ | refine t_fld ?_ | refine t_yes ?_ | refine t_mscons ?_ | refine t_msnil ?_ | refine t_raise ?_ | refine t_par3 ?_ | refine t_unp ?_
        | refine t_callP ⟨rfl, ?_⟩ | refine t_callP ?_ | refine ⟨rfl, ?_⟩ | refine br_t rfl ?_ | refine br_f rfl ?_
        | refine ⟨_, rfl, ?_⟩)
    refine t_sfor (t_itA_tup (xs := roles.map W.str) (t_eV rfl ⟨rfl, fun it ov => ⟨_, ov, fun i ρ st => ∃ x, ρ = [some (.w (.dic false (gsW gs))), some (.w (rolesW roles)), x] ∧ st = [.lst ys], ⟨none, rfl, rfl⟩, fun i x ρ st ex hI => ?_, fun ρ st hI => ?_⟩⟩))
    · obtain ⟨x0, rfl, rfl⟩ := hI
      obtain ⟨role, er, rfl⟩ : ∃ role, roles[i]? = some role ∧ x = .str role := by
        rw [List.getElem?_map] at ex
        obtain ⟨wd, e1, e2⟩ := Option.map_eq_some_iff.mp ex
        exact ⟨wd, e1, e2.symm⟩
      refine ⟨_, rfl, ?_⟩
      repeat (first
          | refine t_seq ?_ | refine t_sset ?_ | refine t_sret ?_ | refine t_sexpr ?_ | refine t_snil ?_ | refine t_sif ?_ | refine t_asg ?_ | refine t_msub ?_
          | refine t_eV rfl ?_ | refine t_eC ?_ | refine t_e2 ?_ | refine t_e1 ?_ | refine t_eA ?_ | refine t_nil ?_ | refine t_cons ?_ | refine t_tup ?_ | refine t_lst ?_ | refine t_lstC ?_ | refine t_par ?_
          | refine t_tV ?_ | refine t_not ?_ | refine t_and ?_ | refine t_or ?_ | refine t_if ?_ | refine t_eand ?_ | refine t_eor ?_ | refine t_enot ?_ | refine t_eM ?_ | refine t_chain ?_ | refine t_ono ?_ | refine t_osome ?_ | refine t_sl ?_ | refine t_rcd ?_ | refine t_dicC ?_ | refine t_fld ?_ | refine t_yes ?_ | refine t_mscons ?_ | refine t_msnil ?_ | refine t_raise ?_ | refine t_par3 ?_ | refine t_unp ?_
          | refine t_callP ⟨rfl, ?_⟩ | refine t_callP ?_ | refine ⟨rfl, ?_⟩ | refine br_t rfl ?_ | refine br_f rfl ?_
          | refine ⟨_, rfl, ?_⟩)
      refine ⟨fun hb => ?_, fun hb => ?_⟩
      · have hm : role ∈ gs.map (·.1) := Classical.byContradiction fun hn => by rw [gsW_none hn] at hb; cases hb
        obtain ⟨⟨role', ks⟩, hp, rfl⟩ := List.mem_map.mp hm
        have ef := gsW_find hp ndg
        repeat (first
            | refine t_seq ?_ | refine t_sset ?_ | refine t_sret ?_ | refine t_sexpr ?_ | refine t_snil ?_ | refine t_sif ?_ | refine t_asg ?_ | refine t_msub ?_
            | refine t_eV rfl ?_ | refine t_eC ?_ | refine t_e2 ?_ | refine t_e1 ?_ | refine t_eA ?_ | refine t_nil ?_ | refine t_cons ?_ | refine t_tup ?_ | refine t_lst ?_ | refine t_lstC ?_ | refine t_par ?_
            | refine t_tV ?_ | refine t_not ?_ | refine t_and ?_ | refine t_or ?_ | refine t_if ?_ | refine t_eand ?_ | refine t_eor ?_ | refine t_enot ?_ | refine t_eM ?_ | refine t_chain ?_ | refine t_ono ?_ | refine t_osome ?_ | refine t_sl ?_ | refine t_rcd ?_ | refine t_dicC ?_ | refine t_fld ?_ | refine t_yes ?_ | refine t_mscons ?_ | refine t_msnil ?_ | refine t_raise ?_ | refine t_par3 ?_ | refine t_unp ?_
            | refine t_callP ⟨rfl, ?_⟩ | refine t_callP ?_ | refine ⟨rfl, ?_⟩ | refine br_t rfl ?_ | refine br_f rfl ?_
            | refine ⟨_, rfl, ?_⟩)
        refine ⟨.w (.tup ks), by show (findD (gsW gs) (.str role')).map R.w = _; rw [ef]; rfl, ?_⟩
        repeat (first
            | refine t_seq ?_ | refine t_sset ?_ | refine t_sret ?_ | refine t_sexpr ?_ | refine t_snil ?_ | refine t_sif ?_ | refine t_asg ?_ | refine t_msub ?_
            | refine t_eV rfl ?_ | refine t_eC ?_ | refine t_e2 ?_ | refine t_e1 ?_ | refine t_eA ?_ | refine t_nil ?_ | refine t_cons ?_ | refine t_tup ?_ | refine t_lst ?_ | refine t_lstC ?_ | refine t_par ?_
            | refine t_tV ?_ | refine t_not ?_ | refine t_and ?_ | refine t_or ?_ | refine t_if ?_ | refine t_eand ?_ | refine t_eor ?_ | refine t_enot ?_ | refine t_eM ?_ | refine t_chain ?_ | refine t_ono ?_ | refine t_osome ?_ | refine t_sl ?_ | refine t_rcd ?_ | refine t_dicC ?_ | refine t_fld ?_ | refine t_yes ?_ | refine t_mscons ?_ | refine t_msnil ?_ | refine t_raise ?_ | refine t_par3 ?_ | refine t_unp ?_
            | refine t_callP ⟨rfl, ?_⟩ | refine t_callP ?_ | refine ⟨rfl, ?_⟩ | refine br_t rfl ?_ | refine br_f rfl ?_
            | refine ⟨_, rfl, ?_⟩)
        refine t_are_kinds hr (hk _ hp) ?_
        repeat (first
            | refine t_seq ?_ | refine t_sset ?_ | refine t_sret ?_ | refine t_sexpr ?_ | refine t_snil ?_ | refine t_sif ?_ | refine t_asg ?_ | refine t_msub ?_
            | refine t_eV rfl ?_ | refine t_eC ?_ | refine t_e2 ?_ | refine t_e1 ?_ | refine t_eA ?_ | refine t_nil ?_ | refine t_cons ?_ | refine t_tup ?_ | refine t_lst ?_ | refine t_lstC ?_ | refine t_par ?_
            | refine t_tV ?_ | refine t_not ?_ | refine t_and ?_ | refine t_or ?_ | refine t_if ?_ | refine t_eand ?_ | refine t_eor ?_ | refine t_enot ?_ | refine t_eM ?_ | refine t_chain ?_ | refine t_ono ?_ | refine t_osome ?_ | refine t_sl ?_ | refine t_rcd ?_ | refine t_dicC ?_ | refine t_fld ?_ | refine t_yes ?_ | refine t_mscons ?_ | refine t_msnil ?_ | refine t_raise ?_ | refine t_par3 ?_ | refine t_unp ?_
            | refine t_callP ⟨rfl, ?_⟩ | refine t_callP ?_ | refine ⟨rfl, ?_⟩ | refine br_t rfl ?_ | refine br_f rfl ?_
            | refine ⟨_, rfl, ?_⟩)
        rfl
      · repeat (first
          | refine t_seq ?_ | refine t_sset ?_ | refine t_sret ?_ | refine t_sexpr ?_ | refine t_snil ?_ | refine t_sif ?_ | refine t_asg ?_ | refine t_msub ?_
          | refine t_eV rfl ?_ | refine t_eC ?_ | refine t_e2 ?_ | refine t_e1 ?_ | refine t_eA ?_ | refine t_nil ?_ | refine t_cons ?_ | refine t_tup ?_ | refine t_lst ?_ | refine t_lstC ?_ | refine t_par ?_
          | refine t_tV ?_ | refine t_not ?_ | refine t_and ?_ | refine t_or ?_ | refine t_if ?_ | refine t_eand ?_ | refine t_eor ?_ | refine t_enot ?_ | refine t_eM ?_ | refine t_chain ?_ | refine t_ono ?_ | refine t_osome ?_ | refine t_sl ?_ | refine t_rcd ?_ | refine t_dicC ?_ | refine t_fld ?_ | refine t_yes ?_ | refine t_mscons ?_ | refine t_msnil ?_ | refine t_raise ?_ | refine t_par3 ?_ | refine t_unp ?_
          | refine t_callP ⟨rfl, ?_⟩ | refine t_callP ?_ | refine ⟨rfl, ?_⟩ | refine br_t rfl ?_ | refine br_f rfl ?_
          | refine ⟨_, rfl, ?_⟩)
        rfl
    · obtain ⟨x0, rfl, rfl⟩ := hI
      exact ⟨ys, [], _, rfl, rfl, h⟩
end
end Iv.T
end
section
set_option Elab.async false
set_option linter.all false
set_option maxRecDepth 100000
set_option maxHeartbeats 4000000
namespace Iv.T
open PySem PySem.Spec PyProof.Rows L2
/-! ### the checks of rules -/
theorem goChk {α : Type} {E : Exc → Sto → Prop} {m : M α} {st : Sto} {Q : α → Sto → Prop} (h : Go E m st Q) : Go E m st Q := h
theorem t_itZ {E : Exc → Sto → Prop} {f g : Iv.Env → M R} {ρ : Iv.Env} {st : Sto} {QI : Iter → Sto → Prop} (h : Go E (f ρ) st fun r st1 => ∃ xs, r = .w (.lst xs) ∧ Go E (g ρ) st1 fun r' st2 => ∃ ys, r' = .w (.lst ys) ∧ ∀ it, Over it (List.zipWith pairW xs ys) → QI it st2) : Go E (itZ f g ρ) st QI :=
  t_bnd (h.imp fun r s1 ⟨xs, e, h1⟩ => by
    subst e
    exact t_bnd (h1.imp fun r' s2 ⟨ys, e, q⟩ => by
      subst e
      refine t_ret (q _ ⟨by simp, fun i s => ?_⟩)
      show some _ = some _
      rw [List.getElem?_zipWith]
      cases xs[i]? <;> cases ys[i]? <;> rfl))
section
variable {E : Exc → Sto → Prop} {ns : List Int} {ys : List W} {rest : Sto} {Q : R → Sto → Prop}
theorem t_is_test {t : Str × Bool} (ht : t.1 ∈ wordsL) (h : Q (.w (.bl true)) (.lst ys :: rest)) : Go E (callP f_is_test [.w (testW t)]) (.lst ys :: rest) Q := by
  refine t_call rfl (t_runB ?_)
  unfold g_is_test testW
  repeat (first
      | refine t_seq ?_ | refine t_sset ?_ | refine t_sret ?_ | refine t_sexpr ?_ | refine t_snil ?_ | refine t_sif ?_ | refine t_asg ?_ | refine t_msub ?_
      | refine t_eV rfl ?_ | refine t_eC ?_ | refine t_e2 ?_ | refine t_e1 ?_ | refine t_eA ?_ | refine t_nil ?_ | refine t_cons ?_ | refine t_tup ?_ | refine t_lst ?_ | refine t_lstC ?_ | refine t_par ?_
      | refine t_tV ?_ | refine t_not ?_ | refine t_and ?_ | refine t_or ?_ | refine t_if ?_ | refine t_eand ?_ | refine t_eor ?_ | refine t_enot ?_ | refine t_eM ?_ | refine t_chain ?_ | refine t_ono ?_ | refine t_osome ?_ | refine t_sl ?_ | refine t_rcd ?_ | refine t_dicC ?_ | refine t_fld ?_ | refine t_yes ?_ | refine t_mscons ?_ | refine t_msnil ?_ | refine t_raise ?_ | refine t_par3 ?_ | refine t_unp ?_
      | refine t_callP ⟨rfl, ?_⟩ | refine t_callP ?_ | ((fail_if_success with_reducible refine goChk ?_); refine ⟨rfl, ?_⟩) | ((fail_if_success with_reducible refine goChk ?_); refine br_t rfl ?_) | ((fail_if_success with_reducible refine goChk ?_); refine br_f rfl ?_)
      | ((fail_if_success with_reducible refine goChk ?_); refine ⟨_, rfl, ?_⟩))
  refine t_one_of (xs := wordsL) ht ?_
  repeat (first
      | refine t_seq ?_ | refine t_sset ?_ | refine t_sret ?_ | refine t_sexpr ?_ | refine t_snil ?_ | refine t_sif ?_ | refine t_asg ?_ | refine t_msub ?_
      | refine t_eV rfl ?_ | refine t_eC ?_ | refine t_e2 ?_ | refine t_e1 ?_ | refine t_eA ?_ | refine t_nil ?_ | refine t_cons ?_ | refine t_tup ?_ | refine t_lst ?_ | refine t_lstC ?_ | refine t_par ?_
      | refine t_tV ?_ | refine t_not ?_ | refine t_and ?_ | refine t_or ?_ | refine t_if ?_ | refine t_eand ?_ | refine t_eor ?_ | refine t_enot ?_ | refine t_eM ?_ | refine t_chain ?_ | refine t_ono ?_ | refine t_osome ?_ | refine t_sl ?_ | refine t_rcd ?_ | refine t_dicC ?_ | refine t_fld ?_ | refine t_yes ?_ | refine t_mscons ?_ | refine t_msnil ?_ | refine t_raise ?_ | refine t_par3 ?_ | refine t_unp ?_
      | refine t_callP ⟨rfl, ?_⟩ | refine t_callP ?_ | ((fail_if_success with_reducible refine goChk ?_); refine ⟨rfl, ?_⟩) | ((fail_if_success with_reducible refine goChk ?_); refine br_t rfl ?_) | ((fail_if_success with_reducible refine goChk ?_); refine br_f rfl ?_)
      | ((fail_if_success with_reducible refine goChk ?_); refine ⟨_, rfl, ?_⟩))
  exact ⟨ys, _, _, rfl, rfl, h⟩
theorem words_lt : wordsL.Pairwise fun a b => a.cps.toList < b.cps.toList := by
  decide
theorem test_names : ∀ ts : List (Str × Bool), (ts.map testW).filterMap (fun x => match x with | .tup (y :: _) => some y | _ => none) = ts.map fun t => W.str t.1
  | [] => rfl
  | t :: r => congrArg (W.str t.1 :: ·) (test_names r)
theorem t_is_rule {ts : List (Str × Bool)} {a : Str} (hr : Rule ts a) (h : Q (.w (.bl true)) (.lst ys :: rest)) : Go E (callP f_is_rule [.w (ruleW ts a)]) (.lst ys :: rest) Q := by
  have hw : ∀ t ∈ ts, t.1 ∈ wordsL := fun t ht => hr.sub.subset (List.mem_map.mpr ⟨t, ht, rfl⟩)
  have hp : (ts.map (·.1)).Pairwise fun a b => a.cps.toList < b.cps.toList := words_lt.sublist hr.sub
  have hl := hr.len
  refine t_call rfl (t_runB ?_)
  unfold g_is_rule ruleW
  repeat (first
      | refine t_seq ?_ | refine t_sset ?_ | refine t_sret ?_ | refine t_sexpr ?_ | refine t_snil ?_ | refine t_sif ?_ | refine t_asg ?_ | refine t_msub ?_
      | refine t_eV rfl ?_ | refine t_eC ?_ | refine t_e2 ?_ | refine t_e1 ?_ | refine t_eA ?_ | refine t_nil ?_ | refine t_cons ?_ | refine t_tup ?_ | refine t_lst ?_ | refine t_lstC ?_ | refine t_par ?_
      | refine t_tV ?_ | refine t_not ?_ | refine t_and ?_ | refine t_or ?_ | refine t_if ?_ | refine t_eand ?_ | refine t_eor ?_ | refine t_enot ?_ | refine t_eM ?_ | refine t_chain ?_ | refine t_ono ?_ | refine t_osome ?_ | refine t_sl ?_ | refine t_rcd ?_ | refine t_dicC ?_ | refine t_fld ?_ | refine t_yes ?_ | refine t_mscons ?_ | refine t_msnil ?_ | refine t_raise ?_ | refine t_par3 ?_ | refine t_unp ?_
      | refine t_callP ⟨rfl, ?_⟩ | refine t_callP ?_ | ((fail_if_success with_reducible refine goChk ?_); refine ⟨rfl, ?_⟩) | ((fail_if_success with_reducible refine goChk ?_); refine br_t rfl ?_) | ((fail_if_success with_reducible refine goChk ?_); refine br_f rfl ?_)
      | ((fail_if_success with_reducible refine goChk ?_); refine ⟨_, rfl, ?_⟩))
  refine t_eLc (t_lcPure (t_itA_tup (xs := ts.map testW) (t_e2 (t_eV rfl (t_eC ⟨_, rfl, rfl, fun it ov => ⟨_, ov, by simp; omega, fun _ => some (.bl true), fun x hx => ⟨_, rfl, ?_⟩, ?_⟩⟩)))))
  · obtain ⟨t, ht, rfl⟩ := List.mem_map.mp hx
    refine t_yes (br_t rfl ?_)
    repeat (first
        | refine t_seq ?_ | refine t_sset ?_ | refine t_sret ?_ | refine t_sexpr ?_ | refine t_snil ?_ | refine t_sif ?_ | refine t_asg ?_ | refine t_msub ?_
        | refine t_eV rfl ?_ | refine t_eC ?_ | refine t_e2 ?_ | refine t_e1 ?_ | refine t_eA ?_ | refine t_nil ?_ | refine t_cons ?_ | refine t_tup ?_ | refine t_lst ?_ | refine t_lstC ?_ | refine t_par ?_
        | refine t_tV ?_ | refine t_not ?_ | refine t_and ?_ | refine t_or ?_ | refine t_if ?_ | refine t_eand ?_ | refine t_eor ?_ | refine t_enot ?_ | refine t_eM ?_ | refine t_chain ?_ | refine t_ono ?_ | refine t_osome ?_ | refine t_sl ?_ | refine t_rcd ?_ | refine t_dicC ?_ | refine t_fld ?_ | refine t_yes ?_ | refine t_mscons ?_ | refine t_msnil ?_ | refine t_raise ?_ | refine t_par3 ?_ | refine t_unp ?_
        | refine t_callP ⟨rfl, ?_⟩ | refine t_callP ?_ | ((fail_if_success with_reducible refine goChk ?_); refine ⟨rfl, ?_⟩) | ((fail_if_success with_reducible refine goChk ?_); refine br_t rfl ?_) | ((fail_if_success with_reducible refine goChk ?_); refine br_f rfl ?_)
        | ((fail_if_success with_reducible refine goChk ?_); refine ⟨_, rfl, ?_⟩))
    refine t_is_test (hw t ht) ?_
    exact ⟨rfl, _, rfl, rfl⟩
  · rw [fm_true]
    repeat (first
        | refine t_seq ?_ | refine t_sset ?_ | refine t_sret ?_ | refine t_sexpr ?_ | refine t_snil ?_ | refine t_sif ?_ | refine t_asg ?_ | refine t_msub ?_
        | refine t_eV rfl ?_ | refine t_eC ?_ | refine t_e2 ?_ | refine t_e1 ?_ | refine t_eA ?_ | refine t_nil ?_ | refine t_cons ?_ | refine t_tup ?_ | refine t_lst ?_ | refine t_lstC ?_ | refine t_par ?_
        | refine t_tV ?_ | refine t_not ?_ | refine t_and ?_ | refine t_or ?_ | refine t_if ?_ | refine t_eand ?_ | refine t_eor ?_ | refine t_enot ?_ | refine t_eM ?_ | refine t_chain ?_ | refine t_ono ?_ | refine t_osome ?_ | refine t_sl ?_ | refine t_rcd ?_ | refine t_dicC ?_ | refine t_fld ?_ | refine t_yes ?_ | refine t_mscons ?_ | refine t_msnil ?_ | refine t_raise ?_ | refine t_par3 ?_ | refine t_unp ?_
        | refine t_callP ⟨rfl, ?_⟩ | refine t_callP ?_ | ((fail_if_success with_reducible refine goChk ?_); refine ⟨rfl, ?_⟩) | ((fail_if_success with_reducible refine goChk ?_); refine br_t rfl ?_) | ((fail_if_success with_reducible refine goChk ?_); refine br_f rfl ?_)
        | ((fail_if_success with_reducible refine goChk ?_); refine ⟨_, rfl, ?_⟩))
    refine ⟨_, all_true _ _, ?_⟩
    repeat (first
        | refine t_seq ?_ | refine t_sset ?_ | refine t_sret ?_ | refine t_sexpr ?_ | refine t_snil ?_ | refine t_sif ?_ | refine t_asg ?_ | refine t_msub ?_
        | refine t_eV rfl ?_ | refine t_eC ?_ | refine t_e2 ?_ | refine t_e1 ?_ | refine t_eA ?_ | refine t_nil ?_ | refine t_cons ?_ | refine t_tup ?_ | refine t_lst ?_ | refine t_lstC ?_ | refine t_par ?_
        | refine t_tV ?_ | refine t_not ?_ | refine t_and ?_ | refine t_or ?_ | refine t_if ?_ | refine t_eand ?_ | refine t_eor ?_ | refine t_enot ?_ | refine t_eM ?_ | refine t_chain ?_ | refine t_ono ?_ | refine t_osome ?_ | refine t_sl ?_ | refine t_rcd ?_ | refine t_dicC ?_ | refine t_fld ?_ | refine t_yes ?_ | refine t_mscons ?_ | refine t_msnil ?_ | refine t_raise ?_ | refine t_par3 ?_ | refine t_unp ?_
        | refine t_callP ⟨rfl, ?_⟩ | refine t_callP ?_ | ((fail_if_success with_reducible refine goChk ?_); refine ⟨rfl, ?_⟩) | ((fail_if_success with_reducible refine goChk ?_); refine br_t rfl ?_) | ((fail_if_success with_reducible refine goChk ?_); refine br_f rfl ?_)
        | ((fail_if_success with_reducible refine goChk ?_); refine ⟨_, rfl, ?_⟩))
    refine t_one_of (xs := answersL) hr.ans ?_
    repeat (first
        | refine t_seq ?_ | refine t_sset ?_ | refine t_sret ?_ | refine t_sexpr ?_ | refine t_snil ?_ | refine t_sif ?_ | refine t_asg ?_ | refine t_msub ?_
        | refine t_eV rfl ?_ | refine t_eC ?_ | refine t_e2 ?_ | refine t_e1 ?_ | refine t_eA ?_ | refine t_nil ?_ | refine t_cons ?_ | refine t_tup ?_ | refine t_lst ?_ | refine t_lstC ?_ | refine t_par ?_
        | refine t_tV ?_ | refine t_not ?_ | refine t_and ?_ | refine t_or ?_ | refine t_if ?_ | refine t_eand ?_ | refine t_eor ?_ | refine t_enot ?_ | refine t_eM ?_ | refine t_chain ?_ | refine t_ono ?_ | refine t_osome ?_ | refine t_sl ?_ | refine t_rcd ?_ | refine t_dicC ?_ | refine t_fld ?_ | refine t_yes ?_ | refine t_mscons ?_ | refine t_msnil ?_ | refine t_raise ?_ | refine t_par3 ?_ | refine t_unp ?_
        | refine t_callP ⟨rfl, ?_⟩ | refine t_callP ?_ | ((fail_if_success with_reducible refine goChk ?_); refine ⟨rfl, ?_⟩) | ((fail_if_success with_reducible refine goChk ?_); refine br_t rfl ?_) | ((fail_if_success with_reducible refine goChk ?_); refine br_f rfl ?_)
        | ((fail_if_success with_reducible refine goChk ?_); refine ⟨_, rfl, ?_⟩))
    refine t_eLc (t_lcPure (t_itA_tup (xs := ts.map testW) (t_e2 (t_eV rfl (t_eC ⟨_, rfl, rfl, fun it ov => ⟨_, ov, by simp; omega, fun x => match x with | .tup (y :: _) => some y | _ => none, fun x hx => ?_, ?_⟩⟩)))))
    · obtain ⟨t, ht, rfl⟩ := List.mem_map.mp hx
      unfold testW
      refine ⟨_, rfl, t_yes (br_t rfl ?_)⟩
      repeat (first
          | refine t_seq ?_ | refine t_sset ?_ | refine t_sret ?_ | refine t_sexpr ?_ | refine t_snil ?_ | refine t_sif ?_ | refine t_asg ?_ | refine t_msub ?_
          | refine t_eV rfl ?_ | refine t_eC ?_ | refine t_e2 ?_ | refine t_e1 ?_ | refine t_eA ?_ | refine t_nil ?_ | refine t_cons ?_ | refine t_tup ?_ | refine t_lst ?_ | refine t_lstC ?_ | refine t_par ?_
          | refine t_tV ?_ | refine t_not ?_ | refine t_and ?_ | refine t_or ?_ | refine t_if ?_ | refine t_eand ?_ | refine t_eor ?_ | refine t_enot ?_ | refine t_eM ?_ | refine t_chain ?_ | refine t_ono ?_ | refine t_osome ?_ | refine t_sl ?_ | refine t_rcd ?_ | refine t_dicC ?_ | refine t_fld ?_ | refine t_yes ?_ | refine t_mscons ?_ | refine t_msnil ?_ | refine t_raise ?_ | refine t_par3 ?_ | refine t_unp ?_
          | refine t_callP ⟨rfl, ?_⟩ | refine t_callP ?_ | ((fail_if_success with_reducible refine goChk ?_); refine ⟨rfl, ?_⟩) | ((fail_if_success with_reducible refine goChk ?_); refine br_t rfl ?_) | ((fail_if_success with_reducible refine goChk ?_); refine br_f rfl ?_)
          | ((fail_if_success with_reducible refine goChk ?_); refine ⟨_, rfl, ?_⟩))
      rfl
    · rw [test_names]
      repeat (first
          | refine t_seq ?_ | refine t_sset ?_ | refine t_sret ?_ | refine t_sexpr ?_ | refine t_snil ?_ | refine t_sif ?_ | refine t_asg ?_ | refine t_msub ?_
          | refine t_eV rfl ?_ | refine t_eC ?_ | refine t_e2 ?_ | refine t_e1 ?_ | refine t_eA ?_ | refine t_nil ?_ | refine t_cons ?_ | refine t_tup ?_ | refine t_lst ?_ | refine t_lstC ?_ | refine t_par ?_
          | refine t_tV ?_ | refine t_not ?_ | refine t_and ?_ | refine t_or ?_ | refine t_if ?_ | refine t_eand ?_ | refine t_eor ?_ | refine t_enot ?_ | refine t_eM ?_ | refine t_chain ?_ | refine t_ono ?_ | refine t_osome ?_ | refine t_sl ?_ | refine t_rcd ?_ | refine t_dicC ?_ | refine t_fld ?_ | refine t_yes ?_ | refine t_mscons ?_ | refine t_msnil ?_ | refine t_raise ?_ | refine t_par3 ?_ | refine t_unp ?_
          | refine t_callP ⟨rfl, ?_⟩ | refine t_callP ?_ | ((fail_if_success with_reducible refine goChk ?_); refine ⟨rfl, ?_⟩) | ((fail_if_success with_reducible refine goChk ?_); refine br_t rfl ?_) | ((fail_if_success with_reducible refine goChk ?_); refine br_f rfl ?_)
          | ((fail_if_success with_reducible refine goChk ?_); refine ⟨_, rfl, ?_⟩))
      refine t_eLc (t_lcPure (t_itZ (t_eV rfl ⟨_, rfl, t_sl (t_eV rfl (t_osome (t_eC ⟨_, rfl, t_ono ⟨_, rfl, _, rfl, fun it ov => ⟨_, ov, ?_, fun _ => some (.bl true), fun x hx => ?_, ?_⟩⟩⟩)))⟩)))
      · simp; omega
      · match ts, hl, hp, hx with
        | [], _, _, hx => cases hx
        | [t], _, _, hx => cases hx
        | [t, t'], _, hp, hx =>
          obtain rfl : x = pairW (.str t.1) (.str t'.1) := by simpa [HT.sIx, cutL] using hx
          refine ⟨_, rfl, t_yes (br_t rfl ?_)⟩
          refine t_e2 (t_eV rfl (t_eV rfl ⟨_, rfl, rfl, _, rfl, ?_⟩))
          have : t.1.cps.toList < t'.1.cps.toList := by simpa using hp
          rw [decide_eq_true this]
      · rw [fm_true]
        repeat (first
            | refine t_seq ?_ | refine t_sset ?_ | refine t_sret ?_ | refine t_sexpr ?_ | refine t_snil ?_ | refine t_sif ?_ | refine t_asg ?_ | refine t_msub ?_
            | refine t_eV rfl ?_ | refine t_eC ?_ | refine t_e2 ?_ | refine t_e1 ?_ | refine t_eA ?_ | refine t_nil ?_ | refine t_cons ?_ | refine t_tup ?_ | refine t_lst ?_ | refine t_lstC ?_ | refine t_par ?_
            | refine t_tV ?_ | refine t_not ?_ | refine t_and ?_ | refine t_or ?_ | refine t_if ?_ | refine t_eand ?_ | refine t_eor ?_ | refine t_enot ?_ | refine t_eM ?_ | refine t_chain ?_ | refine t_ono ?_ | refine t_osome ?_ | refine t_sl ?_ | refine t_rcd ?_ | refine t_dicC ?_ | refine t_fld ?_ | refine t_yes ?_ | refine t_mscons ?_ | refine t_msnil ?_ | refine t_raise ?_ | refine t_par3 ?_ | refine t_unp ?_
            | refine t_callP ⟨rfl, ?_⟩ | refine t_callP ?_ | ((fail_if_success with_reducible refine goChk ?_); refine ⟨rfl, ?_⟩) | ((fail_if_success with_reducible refine goChk ?_); refine br_t rfl ?_) | ((fail_if_success with_reducible refine goChk ?_); refine br_f rfl ?_)
            | ((fail_if_success with_reducible refine goChk ?_); refine ⟨_, rfl, ?_⟩))
        refine ⟨_, all_true _ _, ?_⟩
        repeat (first
            | refine t_seq ?_ | refine t_sset ?_ | refine t_sret ?_ | refine t_sexpr ?_ | refine t_snil ?_ | refine t_sif ?_ | refine t_asg ?_ | refine t_msub ?_
            | refine t_eV rfl ?_ | refine t_eC ?_ | refine t_e2 ?_ | refine t_e1 ?_ | refine t_eA ?_ | refine t_nil ?_ | refine t_cons ?_ | refine t_tup ?_ | refine t_lst ?_ | refine t_lstC ?_ | refine t_par ?_
            | refine t_tV ?_ | refine t_not ?_ | refine t_and ?_ | refine t_or ?_ | refine t_if ?_ | refine t_eand ?_ | refine t_eor ?_ | refine t_enot ?_ | refine t_eM ?_ | refine t_chain ?_ | refine t_ono ?_ | refine t_osome ?_ | refine t_sl ?_ | refine t_rcd ?_ | refine t_dicC ?_ | refine t_fld ?_ | refine t_yes ?_ | refine t_mscons ?_ | refine t_msnil ?_ | refine t_raise ?_ | refine t_par3 ?_ | refine t_unp ?_
            | refine t_callP ⟨rfl, ?_⟩ | refine t_callP ?_ | ((fail_if_success with_reducible refine goChk ?_); refine ⟨rfl, ?_⟩) | ((fail_if_success with_reducible refine goChk ?_); refine br_t rfl ?_) | ((fail_if_success with_reducible refine goChk ?_); refine br_f rfl ?_)
            | ((fail_if_success with_reducible refine goChk ?_); refine ⟨_, rfl, ?_⟩))
        exact ⟨ys, _, _, rfl, rfl, h⟩
theorem t_check_rules {rules : List (List (Str × Bool) × Str)} (hr : ∀ r ∈ rules, Rule r.1 r.2) (h : rules.length ≤ 6 → Q (.w .non) (.lst ys :: rest)) (hx : 6 < rules.length → E ⟨"InvalidRule", [("index", .int 6)]⟩ (.lst ys :: rest)) : Go E (callP f_check_rules [.w (rulesW rules)]) (.lst ys :: rest) Q := by
  refine t_call rfl (t_runB ?_)
  unfold g_check_rules rulesW
  repeat (first
      | refine t_seq ?_ | refine t_sset ?_ | refine t_sret ?_ | refine t_sexpr ?_ | refine t_snil ?_ | refine t_sif ?_ | refine t_asg ?_ | refine t_msub ?_
      | refine t_eV rfl ?_ | refine t_eC ?_ | refine t_e2 ?_ | refine t_e1 ?_ | refine t_eA ?_ | refine t_nil ?_ | refine t_cons ?_ | refine t_tup ?_ | refine t_lst ?_ | refine t_lstC ?_ | refine t_par ?_
      | refine t_tV ?_ | refine t_not ?_ | refine t_and ?_ | refine t_or ?_ | refine t_if ?_ | refine t_eand ?_ | refine t_eor ?_ | refine t_enot ?_ | refine t_eM ?_ | refine t_chain ?_ | refine t_ono ?_ | refine t_osome ?_ | refine t_sl ?_ | refine t_rcd ?_ | refine t_dicC ?_ | refine t_fld ?_ | refine t_yes ?_ | refine t_mscons ?_ | refine t_msnil ?_ | refine t_raise ?_ | refine t_par3 ?_ | refine t_unp ?_
      | refine t_callP ⟨rfl, ?_⟩ | refine t_callP ?_ | ((fail_if_success with_reducible refine goChk ?_); refine ⟨rfl, ?_⟩) | ((fail_if_success with_reducible refine goChk ?_); refine br_t rfl ?_) | ((fail_if_success with_reducible refine goChk ?_); refine br_f rfl ?_)
      | ((fail_if_success with_reducible refine goChk ?_); refine ⟨_, rfl, ?_⟩))
  refine t_sfor (t_itE (xs := rules.map fun r => ruleW r.1 r.2) (t_eV rfl ⟨.inl rfl, fun it ov => ⟨_, ov, fun i ρ st => i ≤ 6 ∧ (∃ x y, ρ = [some (.w (rulesW rules)), x, y]) ∧ st = [.lst ys], ⟨by omega, ⟨none, none, rfl⟩, rfl⟩, fun i x ρ st ex hI => ?_, fun ρ st hI => ?_⟩⟩))
  · obtain ⟨hi, ⟨x0, y0, rfl⟩, rfl⟩ := hI
    rw [List.getElem?_mapIdx, List.getElem?_map] at ex
    obtain ⟨x1, ex1, rfl⟩ := Option.map_eq_some_iff.mp ex
    obtain ⟨r, er, rfl⟩ := Option.map_eq_some_iff.mp ex1
    refine ⟨_, rfl, ?_⟩
    repeat (first
        | refine t_seq ?_ | refine t_sset ?_ | refine t_sret ?_ | refine t_sexpr ?_ | refine t_snil ?_ | refine t_sif ?_ | refine t_asg ?_ | refine t_msub ?_
        | refine t_eV rfl ?_ | refine t_eC ?_ | refine t_e2 ?_ | refine t_e1 ?_ | refine t_eA ?_ | refine t_nil ?_ | refine t_cons ?_ | refine t_tup ?_ | refine t_lst ?_ | refine t_lstC ?_ | refine t_par ?_
        | refine t_tV ?_ | refine t_not ?_ | refine t_and ?_ | refine t_or ?_ | refine t_if ?_ | refine t_eand ?_ | refine t_eor ?_ | refine t_enot ?_ | refine t_eM ?_ | refine t_chain ?_ | refine t_ono ?_ | refine t_osome ?_ | refine t_sl ?_ | refine t_rcd ?_ | refine t_dicC ?_ | refine t_fld ?_ | refine t_yes ?_ | refine t_mscons ?_ | refine t_msnil ?_ | refine t_raise ?_ | refine t_par3 ?_ | refine t_unp ?_
        | refine t_callP ⟨rfl, ?_⟩ | refine t_callP ?_ | ((fail_if_success with_reducible refine goChk ?_); refine ⟨rfl, ?_⟩) | ((fail_if_success with_reducible refine goChk ?_); refine br_t rfl ?_) | ((fail_if_success with_reducible refine goChk ?_); refine br_f rfl ?_)
        | ((fail_if_success with_reducible refine goChk ?_); refine ⟨_, rfl, ?_⟩))
    refine ⟨fun hb => ?_, fun hb => ?_⟩
    · have h6 : i = 6 := by
        have := eq_of_beq (show ((i : Int) == 6) = true from hb)
        omega
      subst h6
      repeat (first
          | refine t_seq ?_ | refine t_sset ?_ | refine t_sret ?_ | refine t_sexpr ?_ | refine t_snil ?_ | refine t_sif ?_ | refine t_asg ?_ | refine t_msub ?_
          | refine t_eV rfl ?_ | refine t_eC ?_ | refine t_e2 ?_ | refine t_e1 ?_ | refine t_eA ?_ | refine t_nil ?_ | refine t_cons ?_ | refine t_tup ?_ | refine t_lst ?_ | refine t_lstC ?_ | refine t_par ?_
          | refine t_tV ?_ | refine t_not ?_ | refine t_and ?_ | refine t_or ?_ | refine t_if ?_ | refine t_eand ?_ | refine t_eor ?_ | refine t_enot ?_ | refine t_eM ?_ | refine t_chain ?_ | refine t_ono ?_ | refine t_osome ?_ | refine t_sl ?_ | refine t_rcd ?_ | refine t_dicC ?_ | refine t_fld ?_ | refine t_yes ?_ | refine t_mscons ?_ | refine t_msnil ?_ | refine t_raise ?_ | refine t_par3 ?_ | refine t_unp ?_
          | refine t_callP ⟨rfl, ?_⟩ | refine t_callP ?_ | ((fail_if_success with_reducible refine goChk ?_); refine ⟨rfl, ?_⟩) | ((fail_if_success with_reducible refine goChk ?_); refine br_t rfl ?_) | ((fail_if_success with_reducible refine goChk ?_); refine br_f rfl ?_)
          | ((fail_if_success with_reducible refine goChk ?_); refine ⟨_, rfl, ?_⟩))
      refine ⟨_, rfl, rfl, ys, [], rfl, hx ?_⟩
      exact (List.getElem?_eq_some_iff.mp er).1
    · have h6 : i ≠ 6 := fun e => by subst e; cases hb
      repeat (first
          | refine t_seq ?_ | refine t_sset ?_ | refine t_sret ?_ | refine t_sexpr ?_ | refine t_snil ?_ | refine t_sif ?_ | refine t_asg ?_ | refine t_msub ?_
          | refine t_eV rfl ?_ | refine t_eC ?_ | refine t_e2 ?_ | refine t_e1 ?_ | refine t_eA ?_ | refine t_nil ?_ | refine t_cons ?_ | refine t_tup ?_ | refine t_lst ?_ | refine t_lstC ?_ | refine t_par ?_
          | refine t_tV ?_ | refine t_not ?_ | refine t_and ?_ | refine t_or ?_ | refine t_if ?_ | refine t_eand ?_ | refine t_eor ?_ | refine t_enot ?_ | refine t_eM ?_ | refine t_chain ?_ | refine t_ono ?_ | refine t_osome ?_ | refine t_sl ?_ | refine t_rcd ?_ | refine t_dicC ?_ | refine t_fld ?_ | refine t_yes ?_ | refine t_mscons ?_ | refine t_msnil ?_ | refine t_raise ?_ | refine t_par3 ?_ | refine t_unp ?_
          | refine t_callP ⟨rfl, ?_⟩ | refine t_callP ?_ | ((fail_if_success with_reducible refine goChk ?_); refine ⟨rfl, ?_⟩) | ((fail_if_success with_reducible refine goChk ?_); refine br_t rfl ?_) | ((fail_if_success with_reducible refine goChk ?_); refine br_f rfl ?_)
          | ((fail_if_success with_reducible refine goChk ?_); refine ⟨_, rfl, ?_⟩))
      refine t_is_rule (hr r (List.mem_of_getElem? er)) ?_
      repeat (first
          | refine t_seq ?_ | refine t_sset ?_ | refine t_sret ?_ | refine t_sexpr ?_ | refine t_snil ?_ | refine t_sif ?_ | refine t_asg ?_ | refine t_msub ?_
          | refine t_eV rfl ?_ | refine t_eC ?_ | refine t_e2 ?_ | refine t_e1 ?_ | refine t_eA ?_ | refine t_nil ?_ | refine t_cons ?_ | refine t_tup ?_ | refine t_lst ?_ | refine t_lstC ?_ | refine t_par ?_
          | refine t_tV ?_ | refine t_not ?_ | refine t_and ?_ | refine t_or ?_ | refine t_if ?_ | refine t_eand ?_ | refine t_eor ?_ | refine t_enot ?_ | refine t_eM ?_ | refine t_chain ?_ | refine t_ono ?_ | refine t_osome ?_ | refine t_sl ?_ | refine t_rcd ?_ | refine t_dicC ?_ | refine t_fld ?_ | refine t_yes ?_ | refine t_mscons ?_ | refine t_msnil ?_ | refine t_raise ?_ | refine t_par3 ?_ | refine t_unp ?_
          | refine t_callP ⟨rfl, ?_⟩ | refine t_callP ?_ | ((fail_if_success with_reducible refine goChk ?_); refine ⟨rfl, ?_⟩) | ((fail_if_success with_reducible refine goChk ?_); refine br_t rfl ?_) | ((fail_if_success with_reducible refine goChk ?_); refine br_f rfl ?_)
          | ((fail_if_success with_reducible refine goChk ?_); refine ⟨_, rfl, ?_⟩))
      exact ⟨by omega, ⟨_, _, rfl⟩, rfl⟩
  · obtain ⟨hi, ⟨x0, y0, rfl⟩, rfl⟩ := hI
    refine ⟨ys, [], _, rfl, rfl, h ?_⟩
    simpa using hi
end
end Iv.T
end
section
set_option Elab.async false
set_option linter.all false
set_option maxRecDepth 100000
set_option maxHeartbeats 4000000
namespace Iv.T
open PySem PySem.Spec PyProof.Rows L2
/-! ### books -/
def bookW (roles : List Str) (gs : List (Str × List W)) (rules : List (List (Str × Bool) × Str)) (c j : Str) : W :=
  .ins "Book" [("names", rolesW roles), ("given", .dic false (gsW gs)), ("lines", rulesW rules), ("close_word", .str c), ("join_word", .str j)]
theorem fold_put : ∀ (xs acc : List (Str × List W)), ((acc ++ xs).map (·.1)).Nodup → (gsW xs).foldl (fun a p => putD a p.1 p.2) (gsW acc) = gsW (acc ++ xs)
  | [], acc, _ => by simp [gsW]
  | x :: r, acc, h => by
    have hn : x.1 ∉ acc.map (·.1) := by
      rw [List.map_append, List.map_cons] at h
      intro hm
      have := (List.nodup_append.mp h).2.2 x.1 hm x.1 (by simp)
      exact this rfl
    show (gsW r).foldl _ (putD (gsW acc) (.str x.1) (.tup x.2)) = _
    rw [putD_new hn, show gsW acc ++ [(W.str x.1, W.tup x.2)] = gsW (acc ++ [x]) by simp [gsW], fold_put r (acc ++ [x]) (by simpa using h)]
    simp
/-- the grants in the roles' order -/
def givenL (roles : List Str) (gs : List (Str × List W)) : List (Str × List W) := roles.filterMap fun r => (gs.find? fun p => decide (p.1 = r)).map fun p => (r, p.2)
theorem given_keys (gs : List (Str × List W)) : ∀ roles : List Str, ((givenL roles gs).map (·.1)).Sublist roles
  | [] => .slnil
  | r :: t => by
    unfold givenL
    rw [List.filterMap_cons]
    cases gs.find? fun p => decide (p.1 = r) with
    | none => exact (given_keys gs t).cons r
    | some p => exact (given_keys gs t).cons₂ r
theorem given_ok {roles : List Str} {gs : List (Str × List W)} (hr : roles ∈ rolesL) (hg : GsOk roles gs) : GsOk roles (givenL roles gs) where
  mem := fun p hp => (given_keys gs roles).subset (List.mem_map.mpr ⟨p, hp, rfl⟩)
  nd := (rolesL_ok hr).2.sublist (given_keys gs roles)
  ks := fun p hp => by
    obtain ⟨r, h1, h2⟩ := List.mem_filterMap.mp hp
    obtain ⟨q, e, rfl⟩ := Option.map_eq_some_iff.mp h2
    exact hg.ks q (List.mem_of_find?_eq_some e)
  len := by
    have := (given_keys gs roles).length_le
    have := (rolesL_len hr).2
    simp at *
    omega
theorem find_gs (gs : List (Str × List W)) (r : Str) : findD (gsW gs) (.str r) = (gs.find? fun p => decide (p.1 = r)).map fun p => .tup p.2 := by
  unfold findD gsW
  rw [List.find?_map]
  cases h : gs.find? ((fun p => keyEq p.1 (.str r)) ∘ fun p : Str × List W => (W.str p.1, W.tup p.2)) with
  | none => rw [show (gs.find? fun p => decide (p.1 = r)) = none from h]; rfl
  | some p => rw [show (gs.find? fun p => decide (p.1 = r)) = some p from h]; rfl
section
variable {E : Exc → Sto → Prop} {ns : List Int} {ys : List W} {rest : Sto} {Q : R → Sto → Prop}
theorem t_mkBook {roles : List Str} {gs : List (Str × List W)} {rules : List (List (Str × Bool) × Str)} {c j : Str} (hr : roles ∈ rolesL) (hg : GsOk roles gs) (hl : ∀ r ∈ rules, Rule r.1 r.2) (hc : c ∈ (["keep", "take"] : List Str)) (hj : j ∈ (["greater", "less"] : List Str))
    (h : rules.length ≤ 6 → Q (.w (bookW roles (givenL roles gs) rules c j)) (.lst ys :: rest)) (hx : 6 < rules.length → E ⟨"InvalidRule", [("index", .int 6)]⟩ (.lst ys :: rest)) : Go E (mkP "Book" f_Book__init [.w (rolesW roles), .w (.dic false (gsW gs)), .w (rulesW rules), .w (.str c), .w (.str j)]) (.lst ys :: rest) Q := by
  refine t_mkP rfl (t_runB ?_)
  unfold g_Book__init
  repeat (first
      | refine t_seq ?_ | refine t_sset ?_ | refine t_sret ?_ | refine t_sexpr ?_ | refine t_snil ?_ | refine t_sif ?_ | refine t_asg ?_ | refine t_msub ?_
      | refine t_eV rfl ?_ | refine t_eC ?_ | refine t_e2 ?_ | refine t_e1 ?_ | refine t_eA ?_ | refine t_nil ?_ | refine t_cons ?_ | refine t_tup ?_ | refine t_lst ?_ | refine t_lstC ?_ | refine t_par ?_
      | refine t_tV ?_ | refine t_not ?_ | refine t_and ?_ | refine t_or ?_ | refine t_if ?_ | refine t_eand ?_ | refine t_eor ?_ | refine t_enot ?_ | refine t_eM ?_ | refine t_chain ?_ | refine t_ono ?_ | refine t_osome ?_ | refine t_sl ?_ | refine t_rcd ?_ | refine t_dicC ?_ | refine t_fld ?_ | refine t_yes ?_ | refine t_mscons ?_ | refine t_msnil ?_ | refine t_raise ?_ | refine t_par3 ?_ | refine t_unp ?_
      | refine t_callP ⟨rfl, ?_⟩ | refine t_callP ?_ | ((fail_if_success with_reducible refine goChk ?_); refine ⟨rfl, ?_⟩) | ((fail_if_success with_reducible refine goChk ?_); refine br_t rfl ?_) | ((fail_if_success with_reducible refine goChk ?_); refine br_f rfl ?_)
      | ((fail_if_success with_reducible refine goChk ?_); refine ⟨_, rfl, ?_⟩))
  refine t_are_roles hr ?_
  repeat (first
      | refine t_seq ?_ | refine t_sset ?_ | refine t_sret ?_ | refine t_sexpr ?_ | refine t_snil ?_ | refine t_sif ?_ | refine t_asg ?_ | refine t_msub ?_
      | refine t_eV rfl ?_ | refine t_eC ?_ | refine t_e2 ?_ | refine t_e1 ?_ | refine t_eA ?_ | refine t_nil ?_ | refine t_cons ?_ | refine t_tup ?_ | refine t_lst ?_ | refine t_lstC ?_ | refine t_par ?_
      | refine t_tV ?_ | refine t_not ?_ | refine t_and ?_ | refine t_or ?_ | refine t_if ?_ | refine t_eand ?_ | refine t_eor ?_ | refine t_enot ?_ | refine t_eM ?_ | refine t_chain ?_ | refine t_ono ?_ | refine t_osome ?_ | refine t_sl ?_ | refine t_rcd ?_ | refine t_dicC ?_ | refine t_fld ?_ | refine t_yes ?_ | refine t_mscons ?_ | refine t_msnil ?_ | refine t_raise ?_ | refine t_par3 ?_ | refine t_unp ?_
      | refine t_callP ⟨rfl, ?_⟩ | refine t_callP ?_ | ((fail_if_success with_reducible refine goChk ?_); refine ⟨rfl, ?_⟩) | ((fail_if_success with_reducible refine goChk ?_); refine br_t rfl ?_) | ((fail_if_success with_reducible refine goChk ?_); refine br_f rfl ?_)
      | ((fail_if_success with_reducible refine goChk ?_); refine ⟨_, rfl, ?_⟩))
  refine t_check_grants hr hg ?_
  repeat (first
      | refine t_seq ?_ | refine t_sset ?_ | refine t_sret ?_ | refine t_sexpr ?_ | refine t_snil ?_ | refine t_sif ?_ | refine t_asg ?_ | refine t_msub ?_
      | refine t_eV rfl ?_ | refine t_eC ?_ | refine t_e2 ?_ | refine t_e1 ?_ | refine t_eA ?_ | refine t_nil ?_ | refine t_cons ?_ | refine t_tup ?_ | refine t_lst ?_ | refine t_lstC ?_ | refine t_par ?_
      | refine t_tV ?_ | refine t_not ?_ | refine t_and ?_ | refine t_or ?_ | refine t_if ?_ | refine t_eand ?_ | refine t_eor ?_ | refine t_enot ?_ | refine t_eM ?_ | refine t_chain ?_ | refine t_ono ?_ | refine t_osome ?_ | refine t_sl ?_ | refine t_rcd ?_ | refine t_dicC ?_ | refine t_fld ?_ | refine t_yes ?_ | refine t_mscons ?_ | refine t_msnil ?_ | refine t_raise ?_ | refine t_par3 ?_ | refine t_unp ?_
      | refine t_callP ⟨rfl, ?_⟩ | refine t_callP ?_ | ((fail_if_success with_reducible refine goChk ?_); refine ⟨rfl, ?_⟩) | ((fail_if_success with_reducible refine goChk ?_); refine br_t rfl ?_) | ((fail_if_success with_reducible refine goChk ?_); refine br_f rfl ?_)
      | ((fail_if_success with_reducible refine goChk ?_); refine ⟨_, rfl, ?_⟩))
  refine t_check_rules hl (fun h6 => ?_) (fun h6 => ⟨ys, _, rfl, hx h6⟩)
  repeat (first
      | refine t_seq ?_ | refine t_sset ?_ | refine t_sret ?_ | refine t_sexpr ?_ | refine t_snil ?_ | refine t_sif ?_ | refine t_asg ?_ | refine t_msub ?_
      | refine t_eV rfl ?_ | refine t_eC ?_ | refine t_e2 ?_ | refine t_e1 ?_ | refine t_eA ?_ | refine t_nil ?_ | refine t_cons ?_ | refine t_tup ?_ | refine t_lst ?_ | refine t_lstC ?_ | refine t_par ?_
      | refine t_tV ?_ | refine t_not ?_ | refine t_and ?_ | refine t_or ?_ | refine t_if ?_ | refine t_eand ?_ | refine t_eor ?_ | refine t_enot ?_ | refine t_eM ?_ | refine t_chain ?_ | refine t_ono ?_ | refine t_osome ?_ | refine t_sl ?_ | refine t_rcd ?_ | refine t_dicC ?_ | refine t_fld ?_ | refine t_yes ?_ | refine t_mscons ?_ | refine t_msnil ?_ | refine t_raise ?_ | refine t_par3 ?_ | refine t_unp ?_
      | refine t_callP ⟨rfl, ?_⟩ | refine t_callP ?_ | ((fail_if_success with_reducible refine goChk ?_); refine ⟨rfl, ?_⟩) | ((fail_if_success with_reducible refine goChk ?_); refine br_t rfl ?_) | ((fail_if_success with_reducible refine goChk ?_); refine br_f rfl ?_)
      | ((fail_if_success with_reducible refine goChk ?_); refine ⟨_, rfl, ?_⟩))
  refine t_one_of (xs := ["keep", "take"]) hc ?_
  repeat (first
      | refine t_seq ?_ | refine t_sset ?_ | refine t_sret ?_ | refine t_sexpr ?_ | refine t_snil ?_ | refine t_sif ?_ | refine t_asg ?_ | refine t_msub ?_
      | refine t_eV rfl ?_ | refine t_eC ?_ | refine t_e2 ?_ | refine t_e1 ?_ | refine t_eA ?_ | refine t_nil ?_ | refine t_cons ?_ | refine t_tup ?_ | refine t_lst ?_ | refine t_lstC ?_ | refine t_par ?_
      | refine t_tV ?_ | refine t_not ?_ | refine t_and ?_ | refine t_or ?_ | refine t_if ?_ | refine t_eand ?_ | refine t_eor ?_ | refine t_enot ?_ | refine t_eM ?_ | refine t_chain ?_ | refine t_ono ?_ | refine t_osome ?_ | refine t_sl ?_ | refine t_rcd ?_ | refine t_dicC ?_ | refine t_fld ?_ | refine t_yes ?_ | refine t_mscons ?_ | refine t_msnil ?_ | refine t_raise ?_ | refine t_par3 ?_ | refine t_unp ?_
      | refine t_callP ⟨rfl, ?_⟩ | refine t_callP ?_ | ((fail_if_success with_reducible refine goChk ?_); refine ⟨rfl, ?_⟩) | ((fail_if_success with_reducible refine goChk ?_); refine br_t rfl ?_) | ((fail_if_success with_reducible refine goChk ?_); refine br_f rfl ?_)
      | ((fail_if_success with_reducible refine goChk ?_); refine ⟨_, rfl, ?_⟩))
  refine t_one_of (xs := ["greater", "less"]) hj ?_
  repeat (first
      | refine t_seq ?_ | refine t_sset ?_ | refine t_sret ?_ | refine t_sexpr ?_ | refine t_snil ?_ | refine t_sif ?_ | refine t_asg ?_ | refine t_msub ?_
      | refine t_eV rfl ?_ | refine t_eC ?_ | refine t_e2 ?_ | refine t_e1 ?_ | refine t_eA ?_ | refine t_nil ?_ | refine t_cons ?_ | refine t_tup ?_ | refine t_lst ?_ | refine t_lstC ?_ | refine t_par ?_
      | refine t_tV ?_ | refine t_not ?_ | refine t_and ?_ | refine t_or ?_ | refine t_if ?_ | refine t_eand ?_ | refine t_eor ?_ | refine t_enot ?_ | refine t_eM ?_ | refine t_chain ?_ | refine t_ono ?_ | refine t_osome ?_ | refine t_sl ?_ | refine t_rcd ?_ | refine t_dicC ?_ | refine t_fld ?_ | refine t_yes ?_ | refine t_mscons ?_ | refine t_msnil ?_ | refine t_raise ?_ | refine t_par3 ?_ | refine t_unp ?_
      | refine t_callP ⟨rfl, ?_⟩ | refine t_callP ?_ | ((fail_if_success with_reducible refine goChk ?_); refine ⟨rfl, ?_⟩) | ((fail_if_success with_reducible refine goChk ?_); refine br_t rfl ?_) | ((fail_if_success with_reducible refine goChk ?_); refine br_f rfl ?_)
      | ((fail_if_success with_reducible refine goChk ?_); refine ⟨_, rfl, ?_⟩))
  have nd := (rolesL_ok hr).2
  refine t_eDc (t_itA_tup (xs := roles.map W.str) (t_eV rfl ⟨rfl, fun it ov => ⟨_, ov, by have := (rolesL_len hr).2; simp; omega, fun x => (findD (gsW gs) x).map fun y => (x, y), fun x hx => ⟨_, rfl, ?_⟩, ?_⟩⟩))
  · obtain ⟨r, hm, rfl⟩ := List.mem_map.mp hx
    refine t_tV (t_e2 (t_eV rfl (t_eV rfl ⟨_, in_gs gs r _, _, rfl, fun hb => ?_, fun hb => ?_⟩)))
    · obtain ⟨y, ey⟩ := Option.isSome_iff_exists.mp hb
      refine t_eV rfl (t_e2 (t_eV rfl (t_eV rfl ⟨.w y, ?_, rfl, _, y, rfl, rfl, rfl, ?_⟩)))
      · show (findD (gsW gs) (.str r)).map R.w = _
        rw [ey]; rfl
      · show (findD (gsW gs) (.str r)).map _ = _
        rw [ey]
        rfl
    · refine ⟨rfl, ?_⟩
      show (findD (gsW gs) (.str r)).map _ = _
      cases hf : findD (gsW gs) (.str r) with
      | none => rfl
      | some y => rw [hf] at hb; cases hb
  · have e1 : (roles.map W.str).filterMap (fun x => (findD (gsW gs) x).map fun y => (x, y)) = gsW (givenL roles gs) := by
      unfold givenL gsW
      rw [List.filterMap_map, List.map_filterMap]
      congr 1
      funext r
      show (findD (gsW gs) (.str r)).map _ = _
      rw [find_gs]
      cases gs.find? fun p => decide (p.1 = r) <;> rfl
    have e2 : (gsW (givenL roles gs)).foldl (fun a p => putD a p.1 p.2) [] = gsW (givenL roles gs) := fold_put _ [] (by simpa using (given_ok hr hg).nd)
    rw [e1, e2]
    repeat (first
        | refine t_seq ?_ | refine t_sset ?_ | refine t_sret ?_ | refine t_sexpr ?_ | refine t_snil ?_ | refine t_sif ?_ | refine t_asg ?_ | refine t_msub ?_
        | refine t_eV rfl ?_ | refine t_eC ?_ | refine t_e2 ?_ | refine t_e1 ?_ | refine t_eA ?_ | refine t_nil ?_ | refine t_cons ?_ | refine t_tup ?_ | refine t_lst ?_ | refine t_lstC ?_ | refine t_par ?_
        | refine t_tV ?_ | refine t_not ?_ | refine t_and ?_ | refine t_or ?_ | refine t_if ?_ | refine t_eand ?_ | refine t_eor ?_ | refine t_enot ?_ | refine t_eM ?_ | refine t_chain ?_ | refine t_ono ?_ | refine t_osome ?_ | refine t_sl ?_ | refine t_rcd ?_ | refine t_dicC ?_ | refine t_fld ?_ | refine t_yes ?_ | refine t_mscons ?_ | refine t_msnil ?_ | refine t_raise ?_ | refine t_par3 ?_ | refine t_unp ?_
        | refine t_callP ⟨rfl, ?_⟩ | refine t_callP ?_ | ((fail_if_success with_reducible refine goChk ?_); refine ⟨rfl, ?_⟩) | ((fail_if_success with_reducible refine goChk ?_); refine br_t rfl ?_) | ((fail_if_success with_reducible refine goChk ?_); refine br_f rfl ?_)
        | ((fail_if_success with_reducible refine goChk ?_); refine ⟨_, rfl, ?_⟩))
    exact ⟨ys, _, _, rfl, rfl, h h6⟩
theorem gs_ok {roles : List Str} {gs : List (Str × List W)} {rules : List (List (Str × Bool) × Str)} {c j : Str} (d : DrawnOk roles gs rules c j) : GsOk roles gs where
  mem := fun p hp => List.mem_reverse.mp (d.gsub.subset (List.mem_map.mpr ⟨p, hp, rfl⟩))
  nd := ((List.reverse_perm roles).nodup_iff.mpr (rolesL_ok d.hr).2).sublist d.gsub
  ks := d.gk
  len := by
    have := d.gsub.length_le
    have := (rolesL_len d.hr).2
    simp at *
    omega
theorem t_book {roles : List Str} {gs : List (Str × List W)} {rules : List (List (Str × Bool) × Str)} {c j : Str} (d : DrawnOk roles gs rules c j) (h : Q (.w (bookW roles (givenL roles gs) rules c j)) (.lst ys :: rest)) : Go E (callP f__law_book [.w (drawnW roles gs rules c j)]) (.lst ys :: rest) Q := by
  refine t_call rfl (t_runB ?_)
  unfold g__law_book
  repeat (first
      | refine t_seq ?_ | refine t_sset ?_ | refine t_sret ?_ | refine t_sexpr ?_ | refine t_snil ?_ | refine t_sif ?_ | refine t_asg ?_ | refine t_msub ?_
      | refine t_eV rfl ?_ | refine t_eC ?_ | refine t_e2 ?_ | refine t_e1 ?_ | refine t_eA ?_ | refine t_nil ?_ | refine t_cons ?_ | refine t_tup ?_ | refine t_lst ?_ | refine t_lstC ?_ | refine t_par ?_
      | refine t_tV ?_ | refine t_not ?_ | refine t_and ?_ | refine t_or ?_ | refine t_if ?_ | refine t_eand ?_ | refine t_eor ?_ | refine t_enot ?_ | refine t_eM ?_ | refine t_chain ?_ | refine t_ono ?_ | refine t_osome ?_ | refine t_sl ?_ | refine t_rcd ?_ | refine t_dicC ?_ | refine t_fld ?_ | refine t_yes ?_ | refine t_mscons ?_ | refine t_msnil ?_ | refine t_raise ?_ | refine t_par3 ?_ | refine t_unp ?_
      | refine t_callP ⟨rfl, ?_⟩ | refine t_callP ?_ | ((fail_if_success with_reducible refine goChk ?_); refine ⟨rfl, ?_⟩) | ((fail_if_success with_reducible refine goChk ?_); refine br_t rfl ?_) | ((fail_if_success with_reducible refine goChk ?_); refine br_f rfl ?_)
      | ((fail_if_success with_reducible refine goChk ?_); refine ⟨_, rfl, ?_⟩))
  refine t_mk ?_
  repeat (first
      | refine t_seq ?_ | refine t_sset ?_ | refine t_sret ?_ | refine t_sexpr ?_ | refine t_snil ?_ | refine t_sif ?_ | refine t_asg ?_ | refine t_msub ?_
      | refine t_eV rfl ?_ | refine t_eC ?_ | refine t_e2 ?_ | refine t_e1 ?_ | refine t_eA ?_ | refine t_nil ?_ | refine t_cons ?_ | refine t_tup ?_ | refine t_lst ?_ | refine t_lstC ?_ | refine t_par ?_
      | refine t_tV ?_ | refine t_not ?_ | refine t_and ?_ | refine t_or ?_ | refine t_if ?_ | refine t_eand ?_ | refine t_eor ?_ | refine t_enot ?_ | refine t_eM ?_ | refine t_chain ?_ | refine t_ono ?_ | refine t_osome ?_ | refine t_sl ?_ | refine t_rcd ?_ | refine t_dicC ?_ | refine t_fld ?_ | refine t_yes ?_ | refine t_mscons ?_ | refine t_msnil ?_ | refine t_raise ?_ | refine t_par3 ?_ | refine t_unp ?_
      | refine t_callP ⟨rfl, ?_⟩ | refine t_callP ?_ | ((fail_if_success with_reducible refine goChk ?_); refine ⟨rfl, ?_⟩) | ((fail_if_success with_reducible refine goChk ?_); refine br_t rfl ?_) | ((fail_if_success with_reducible refine goChk ?_); refine br_f rfl ?_)
      | ((fail_if_success with_reducible refine goChk ?_); refine ⟨_, rfl, ?_⟩))
  refine t_mkBook d.hr (gs_ok d) d.rl d.hc d.hj (fun _ => ?_) (fun z => ?_)
  · repeat (first
      | refine t_seq ?_ | refine t_sset ?_ | refine t_sret ?_ | refine t_sexpr ?_ | refine t_snil ?_ | refine t_sif ?_ | refine t_asg ?_ | refine t_msub ?_
      | refine t_eV rfl ?_ | refine t_eC ?_ | refine t_e2 ?_ | refine t_e1 ?_ | refine t_eA ?_ | refine t_nil ?_ | refine t_cons ?_ | refine t_tup ?_ | refine t_lst ?_ | refine t_lstC ?_ | refine t_par ?_
      | refine t_tV ?_ | refine t_not ?_ | refine t_and ?_ | refine t_or ?_ | refine t_if ?_ | refine t_eand ?_ | refine t_eor ?_ | refine t_enot ?_ | refine t_eM ?_ | refine t_chain ?_ | refine t_ono ?_ | refine t_osome ?_ | refine t_sl ?_ | refine t_rcd ?_ | refine t_dicC ?_ | refine t_fld ?_ | refine t_yes ?_ | refine t_mscons ?_ | refine t_msnil ?_ | refine t_raise ?_ | refine t_par3 ?_ | refine t_unp ?_
      | refine t_callP ⟨rfl, ?_⟩ | refine t_callP ?_ | ((fail_if_success with_reducible refine goChk ?_); refine ⟨rfl, ?_⟩) | ((fail_if_success with_reducible refine goChk ?_); refine br_t rfl ?_) | ((fail_if_success with_reducible refine goChk ?_); refine br_f rfl ?_)
      | ((fail_if_success with_reducible refine goChk ?_); refine ⟨_, rfl, ?_⟩))
    exact ⟨ys, _, _, rfl, rfl, h⟩
  · have := d.rlen
    omega
theorem t_with_rules {roles : List Str} {gs : List (Str × List W)} {rules rules' : List (List (Str × Bool) × Str)} {c j : Str} (hr : roles ∈ rolesL) (hg : GsOk roles gs) (hl : ∀ r ∈ rules', Rule r.1 r.2) (hc : c ∈ (["keep", "take"] : List Str)) (hj : j ∈ (["greater", "less"] : List Str))
    (h : rules'.length ≤ 6 → Q (.w (bookW roles (givenL roles gs) rules' c j)) (.lst ys :: rest)) (hx : 6 < rules'.length → E ⟨"InvalidRule", [("index", .int 6)]⟩ (.lst ys :: rest)) : Go E (callP f_Book__with_rules [.w (bookW roles gs rules c j), .w (rulesW rules')]) (.lst ys :: rest) Q := by
  refine t_call rfl (t_runB ?_)
  unfold g_Book__with_rules
  repeat (first
      | refine t_seq ?_ | refine t_sset ?_ | refine t_sret ?_ | refine t_sexpr ?_ | refine t_snil ?_ | refine t_sif ?_ | refine t_asg ?_ | refine t_msub ?_
      | refine t_eV rfl ?_ | refine t_eC ?_ | refine t_e2 ?_ | refine t_e1 ?_ | refine t_eA ?_ | refine t_nil ?_ | refine t_cons ?_ | refine t_tup ?_ | refine t_lst ?_ | refine t_lstC ?_ | refine t_par ?_
      | refine t_tV ?_ | refine t_not ?_ | refine t_and ?_ | refine t_or ?_ | refine t_if ?_ | refine t_eand ?_ | refine t_eor ?_ | refine t_enot ?_ | refine t_eM ?_ | refine t_chain ?_ | refine t_ono ?_ | refine t_osome ?_ | refine t_sl ?_ | refine t_rcd ?_ | refine t_dicC ?_ | refine t_fld ?_ | refine t_yes ?_ | refine t_mscons ?_ | refine t_msnil ?_ | refine t_raise ?_ | refine t_par3 ?_ | refine t_unp ?_
      | refine t_callP ⟨rfl, ?_⟩ | refine t_callP ?_ | ((fail_if_success with_reducible refine goChk ?_); refine ⟨rfl, ?_⟩) | ((fail_if_success with_reducible refine goChk ?_); refine br_t rfl ?_) | ((fail_if_success with_reducible refine goChk ?_); refine br_f rfl ?_)
      | ((fail_if_success with_reducible refine goChk ?_); refine ⟨_, rfl, ?_⟩))
  refine t_mk ?_
  repeat (first
      | refine t_seq ?_ | refine t_sset ?_ | refine t_sret ?_ | refine t_sexpr ?_ | refine t_snil ?_ | refine t_sif ?_ | refine t_asg ?_ | refine t_msub ?_
      | refine t_eV rfl ?_ | refine t_eC ?_ | refine t_e2 ?_ | refine t_e1 ?_ | refine t_eA ?_ | refine t_nil ?_ | refine t_cons ?_ | refine t_tup ?_ | refine t_lst ?_ | refine t_lstC ?_ | refine t_par ?_
      | refine t_tV ?_ | refine t_not ?_ | refine t_and ?_ | refine t_or ?_ | refine t_if ?_ | refine t_eand ?_ | refine t_eor ?_ | refine t_enot ?_ | refine t_eM ?_ | refine t_chain ?_ | refine t_ono ?_ | refine t_osome ?_ | refine t_sl ?_ | refine t_rcd ?_ | refine t_dicC ?_ | refine t_fld ?_ | refine t_yes ?_ | refine t_mscons ?_ | refine t_msnil ?_ | refine t_raise ?_ | refine t_par3 ?_ | refine t_unp ?_
      | refine t_callP ⟨rfl, ?_⟩ | refine t_callP ?_ | ((fail_if_success with_reducible refine goChk ?_); refine ⟨rfl, ?_⟩) | ((fail_if_success with_reducible refine goChk ?_); refine br_t rfl ?_) | ((fail_if_success with_reducible refine goChk ?_); refine br_f rfl ?_)
      | ((fail_if_success with_reducible refine goChk ?_); refine ⟨_, rfl, ?_⟩))
  refine t_mkBook hr hg hl hc hj (fun h6 => ?_) (fun h6 => ?_)
  · repeat (first
      | refine t_seq ?_ | refine t_sset ?_ | refine t_sret ?_ | refine t_sexpr ?_ | refine t_snil ?_ | refine t_sif ?_ | refine t_asg ?_ | refine t_msub ?_
      | refine t_eV rfl ?_ | refine t_eC ?_ | refine t_e2 ?_ | refine t_e1 ?_ | refine t_eA ?_ | refine t_nil ?_ | refine t_cons ?_ | refine t_tup ?_ | refine t_lst ?_ | refine t_lstC ?_ | refine t_par ?_
      | refine t_tV ?_ | refine t_not ?_ | refine t_and ?_ | refine t_or ?_ | refine t_if ?_ | refine t_eand ?_ | refine t_eor ?_ | refine t_enot ?_ | refine t_eM ?_ | refine t_chain ?_ | refine t_ono ?_ | refine t_osome ?_ | refine t_sl ?_ | refine t_rcd ?_ | refine t_dicC ?_ | refine t_fld ?_ | refine t_yes ?_ | refine t_mscons ?_ | refine t_msnil ?_ | refine t_raise ?_ | refine t_par3 ?_ | refine t_unp ?_
      | refine t_callP ⟨rfl, ?_⟩ | refine t_callP ?_ | ((fail_if_success with_reducible refine goChk ?_); refine ⟨rfl, ?_⟩) | ((fail_if_success with_reducible refine goChk ?_); refine br_t rfl ?_) | ((fail_if_success with_reducible refine goChk ?_); refine br_f rfl ?_)
      | ((fail_if_success with_reducible refine goChk ?_); refine ⟨_, rfl, ?_⟩))
    exact ⟨ys, _, _, rfl, rfl, h h6⟩
  · exact ⟨ys, _, rfl, hx h6⟩
end
end Iv.T
end
section
set_option Elab.async false
set_option linter.all false
set_option maxRecDepth 100000
set_option maxHeartbeats 4000000
namespace Iv.T
open PySem PySem.Spec PyProof.Rows L2
/-! ### mends -/
inductive Mend where
  | bar (w : Fin 8)
  | turn (k : Fin 4) (a : Fin 3)
  | bad (i : Fin 10)
  deriving DecidableEq
def wordAt : Fin 8 → Str
  | 0 => "closed" | 1 => "in" | 2 => "late" | 3 => "low" | 4 => "other" | 5 => "poor" | 6 => "spent" | 7 => "taken"
def ansAt : Fin 3 → Str
  | 0 => "refuse" | 1 => "full" | 2 => "least"
def badW : Fin 10 → W
  | 0 => .non
  | 1 => .tup [.str "bar", .str "lost"]
  | 2 => .tup [.str "turn", .int 9, .str "full"]
  | 3 => .str "bar"
  | 4 => .tup [.str "turn", .bl true, .str "full"]
  | 5 => .tup []
  | 6 => .lst [.str "bar", .str "in"]
  | 7 => .tup [.str "turn", .int 0, .str "lost"]
  | 8 => .tup [.str "bar"]
  | 9 => .tup [.str "turn", .int 0]
def toW : Mend → W
  | .bar w => .tup [.str "bar", .str (wordAt w)]
  | .turn k a => .tup [.str "turn", .int (k.val : Nat), .str (ansAt a)]
  | .bad i => badW i
def allW : List (Fin 8) := [0, 1, 2, 3, 4, 5, 6, 7]
def allA : List (Fin 3) := [0, 1, 2]
theorem allA_W : allA.map (fun a => W.str (ansAt a)) = answersL.map W.str := rfl
theorem allW_W : allW.map (fun a => W.str (wordAt a)) = wordsL.map W.str := rfl
theorem ans_inj : ∀ a b : Fin 3, ansAt a = ansAt b → a = b := by decide
theorem ans_ne (a b : Fin 3) : (!decide (ansAt a = ansAt b)) = decide (a ≠ b) := by
  by_cases h : a = b
  · subst h; simp
  · have : ansAt a ≠ ansAt b := fun e => h (ans_inj a b e)
    simp [h, this]
theorem ans_mem {a : Str} (h : a ∈ answersL) : ∃ i, a = ansAt i := by
  simp only [answersL, List.mem_cons, List.not_mem_nil, or_false] at h
  rcases h with rfl | rfl | rfl
  · exact ⟨0, rfl⟩
  · exact ⟨1, rfl⟩
  · exact ⟨2, rfl⟩
/-- rules with their answers told by number -/
def numbered (rs : List (List (Str × Bool) × Fin 3)) : List (List (Str × Bool) × Str) := rs.map fun r => (r.1, ansAt r.2)
theorem numbered_ex : ∀ {rules : List (List (Str × Bool) × Str)}, (∀ r ∈ rules, Rule r.1 r.2) → ∃ rs, rules = numbered rs
  | [], _ => ⟨[], rfl⟩
  | (ts, a) :: t, h => by
    obtain ⟨i, e⟩ := ans_mem (h (ts, a) (by simp)).ans
    obtain ⟨rs, e'⟩ := numbered_ex (rules := t) fun r hr => h r (List.mem_cons_of_mem _ hr)
    exact ⟨(ts, i) :: rs, by subst e'; cases e; rfl⟩
def turnsOf (i : Nat) (a : Fin 3) : List Mend := (allA.filter fun b => decide (b ≠ a)).map (.turn (Fin.ofNat 4 i))
def bars : List Mend := allW.map .bar
def turns : Nat → List (List (Str × Bool) × Fin 3) → List Mend
  | _, [] => []
  | i, r :: t => turnsOf i r.2 ++ turns (i + 1) t
def known (rs : List (List (Str × Bool) × Fin 3)) : List Mend := bars ++ turns 0 rs
theorem turns_take (rs : List (List (Str × Bool) × Fin 3)) : ∀ (k i : Nat) (r : List (Str × Bool) × Fin 3), rs[i]? = some r → turns k (rs.take (i + 1)) = turns k (rs.take i) ++ turnsOf (k + i) r.2 := by
  induction rs with
  | nil => intro k i r h; cases h
  | cons x t ih =>
    intro k i r h
    cases i with
    | zero =>
      obtain rfl : x = r := by simpa using h
      simp [turns]
    | succ i =>
      have := ih (k + 1) i r (by simpa using h)
      rw [List.take_succ_cons, List.take_succ_cons]
      simp only [turns]
      rw [this, List.append_assoc, Nat.add_right_comm, Nat.add_assoc k]
theorem turns_len (rs : List (List (Str × Bool) × Fin 3)) : ∀ k, (turns k rs).length = 2 * rs.length := by
  induction rs with
  | nil => intro k; rfl
  | cons x t ih =>
    intro k
    simp only [turns, List.length_append, ih, List.length_cons]
    have : (turnsOf k x.2).length = 2 := by
      unfold turnsOf
      rw [List.length_map]
      revert x
      intro ⟨_, a⟩
      match a with
      | 0 => rfl
      | 1 => rfl
      | 2 => rfl
    omega
theorem atI_get {α : Type} {xs : List α} {i : Nat} {x : α} (h : xs[i]? = some x) : atI xs (i : Nat) = some x := by
  have hi := (List.getElem?_eq_some_iff.mp h).1
  unfold atI ixN
  rw [if_pos (by omega), if_pos (by omega)]
  simpa using h
theorem rule_at {rs : List (List (Str × Bool) × Fin 3)} {i : Nat} {r : List (Str × Bool) × Fin 3} (h : rs[i]? = some r) (st : Sto) : ixR2 st (.w (rulesW (numbered rs))) (.w (.int (i : Nat))) = some (.w (ruleW r.1 (ansAt r.2))) := by
  show (atI ((numbered rs).map fun r => ruleW r.1 r.2) (i : Nat)).map R.w = _
  rw [atI_get (x := ruleW r.1 (ansAt r.2)) (by simp [numbered, h])]
  rfl
def part (i : Nat) (a : Fin 3) (k : Nat) : List Mend := ((allA.take k).filter fun b => decide (b ≠ a)).map (Mend.turn (Fin.ofNat 4 i))
theorem part_succ (i : Nat) (a : Fin 3) {k : Nat} {b : Fin 3} (h : allA[k]? = some b) : part i a (k + 1) = part i a k ++ if b ≠ a then [Mend.turn (Fin.ofNat 4 i) b] else [] := by
  unfold part
  rw [List.take_succ, h]
  by_cases e : b = a <;> simp [e]
theorem ofNat4 {i : Nat} (h : i < 4) : (Fin.ofNat 4 i).val = i := Nat.mod_eq_of_lt h
theorem turn_W {i : Nat} (h : i < 4) (b : Fin 3) : toW (.turn (Fin.ofNat 4 i) b) = .tup [.str "turn", .int (i : Nat), .str (ansAt b)] := by
  show W.tup [.str "turn", .int ((Fin.ofNat 4 i).val : Nat), _] = _
  rw [ofNat4 h]
section
variable {E : Exc → Sto → Prop} {ns : List Int} {ys : List W} {rest : Sto} {Q : R → Sto → Prop}
theorem t_all_mends {roles : List Str} {gs : List (Str × List W)} {rs : List (List (Str × Bool) × Fin 3)} {c j : Str} (hl : rs.length ≤ 4) (h : Q (.w (.lst ((known rs).map toW))) (.lst ys :: rest)) : Go E (callP f__law_all_mends [.w (drawnW roles gs (numbered rs) c j)]) (.lst ys :: rest) Q := by
  refine t_call rfl (t_runB ?_)
  unfold g__law_all_mends
  repeat (first
      | refine t_seq ?_ | refine t_sset ?_ | refine t_sret ?_ | refine t_sexpr ?_ | refine t_snil ?_ | refine t_sif ?_ | refine t_asg ?_ | refine t_msub ?_
      | refine t_eV rfl ?_ | refine t_eC ?_ | refine t_e2 ?_ | refine t_e1 ?_ | refine t_eA ?_ | refine t_nil ?_ | refine t_cons ?_ | refine t_tup ?_ | refine t_lst ?_ | refine t_lstC ?_ | refine t_par ?_
      | refine t_tV ?_ | refine t_not ?_ | refine t_and ?_ | refine t_or ?_ | refine t_if ?_ | refine t_eand ?_ | refine t_eor ?_ | refine t_enot ?_ | refine t_eM ?_ | refine t_chain ?_ | refine t_ono ?_ | refine t_osome ?_ | refine t_sl ?_ | refine t_rcd ?_ | refine t_dicC ?_ | refine t_fld ?_ | refine t_yes ?_ | refine t_mscons ?_ | refine t_msnil ?_ | refine t_raise ?_ | refine t_par3 ?_ | refine t_unp ?_
      | refine t_callP ⟨rfl, ?_⟩ | refine t_callP ?_ | ((fail_if_success with_reducible refine goChk ?_); refine ⟨rfl, ?_⟩) | ((fail_if_success with_reducible refine goChk ?_); refine br_t rfl ?_) | ((fail_if_success with_reducible refine goChk ?_); refine br_f rfl ?_)
      | ((fail_if_success with_reducible refine goChk ?_); refine ⟨_, rfl, ?_⟩))
  refine t_sfor (t_itRx ?_)
  repeat (first
      | refine t_seq ?_ | refine t_sset ?_ | refine t_sret ?_ | refine t_sexpr ?_ | refine t_snil ?_ | refine t_sif ?_ | refine t_asg ?_ | refine t_msub ?_
      | refine t_eV rfl ?_ | refine t_eC ?_ | refine t_e2 ?_ | refine t_e1 ?_ | refine t_eA ?_ | refine t_nil ?_ | refine t_cons ?_ | refine t_tup ?_ | refine t_lst ?_ | refine t_lstC ?_ | refine t_par ?_
      | refine t_tV ?_ | refine t_not ?_ | refine t_and ?_ | refine t_or ?_ | refine t_if ?_ | refine t_eand ?_ | refine t_eor ?_ | refine t_enot ?_ | refine t_eM ?_ | refine t_chain ?_ | refine t_ono ?_ | refine t_osome ?_ | refine t_sl ?_ | refine t_rcd ?_ | refine t_dicC ?_ | refine t_fld ?_ | refine t_yes ?_ | refine t_mscons ?_ | refine t_msnil ?_ | refine t_raise ?_ | refine t_par3 ?_ | refine t_unp ?_
      | refine t_callP ⟨rfl, ?_⟩ | refine t_callP ?_ | ((fail_if_success with_reducible refine goChk ?_); refine ⟨rfl, ?_⟩) | ((fail_if_success with_reducible refine goChk ?_); refine br_t rfl ?_) | ((fail_if_success with_reducible refine goChk ?_); refine br_f rfl ?_)
      | ((fail_if_success with_reducible refine goChk ?_); refine ⟨_, rfl, ?_⟩))
  have hll : (List.map (fun r => ruleW r.1 r.2) (numbered rs)).length = rs.length := by simp [numbered]
  rw [hll]
  refine ⟨by omega, fun it ov => ⟨_, ov, fun i ρ st => (∃ x y, ρ = [some (.w (drawnW roles gs (numbered rs) c j)), some (.w (.lst (wordsL.map W.str))), some (.loc 1), x, y, none]) ∧ st = [.lst ys, .lst ((bars ++ turns 0 (rs.take i)).map toW)], ⟨⟨none, none, rfl⟩, by simp [turns]; rfl⟩, fun i x ρ st ex hI => ?_, fun ρ st hI => ?_⟩⟩
  · obtain ⟨⟨x0, y0, rfl⟩, rfl⟩ := hI
    have hi : i < rs.length := by have := (List.getElem?_eq_some_iff.mp ex).1; simpa using this
    obtain rfl : x = .int (i : Nat) := by simpa [hi] using ex.symm
    obtain ⟨r, er⟩ : ∃ r, rs[i]? = some r := ⟨rs[i], List.getElem?_eq_getElem hi⟩
    refine ⟨_, rfl, ?_⟩
    refine t_sfor (t_itA_lst (xs := answersL.map W.str) (.of rfl ⟨rfl, fun it ov => ⟨_, ov, fun k ρ st => (∃ y, ρ = [some (.w (drawnW roles gs (numbered rs) c j)), some (.w (.lst (wordsL.map W.str))), some (.loc 1), some (.w (.int (i : Nat))), y, none]) ∧ st = [.lst ys, .lst ((bars ++ turns 0 (rs.take i) ++ part i r.2 k).map toW)], ⟨⟨_, rfl⟩, by simp [part]⟩, fun k x ρ st ex hI => ?_, fun ρ st hI => ?_⟩⟩))
    · obtain ⟨⟨y0, rfl⟩, rfl⟩ := hI
      rw [← allA_W, List.getElem?_map] at ex
      obtain ⟨b, eb, rfl⟩ := Option.map_eq_some_iff.mp ex
      have hk : k < 3 := (List.getElem?_eq_some_iff.mp eb).1
      refine ⟨_, rfl, ?_⟩
      have pe := part_succ i r.2 eb
      refine t_sif (t_tV (t_e2 (t_eV rfl (t_e2 (t_e2 (t_e2 (t_eV rfl (t_eC ⟨.w (rulesW (numbered rs)), rfl, t_eV rfl ⟨_, rule_at er _, t_eC ⟨_, rfl, .w (.bl (decide (b ≠ r.2))), ?_, _, rfl, ?_⟩⟩⟩))))))))
      · show some (R.w (.bl (!decide (ansAt b = ansAt r.2)))) = _
        rw [ans_ne]
      · refine ⟨fun hb => ?_, fun hb => ?_⟩
        · have e : b ≠ r.2 := of_decide_eq_true hb
          rw [if_pos e] at pe
          refine t_sexpr (t_eM (t_eV rfl ⟨rfl, t_cons (t_tup (t_cons (t_eC (t_cons (t_eV rfl (t_cons (t_eV rfl (t_nil ⟨_, rfl, rfl, t_nil ⟨.w .non, [.lst ys, .lst ((bars ++ turns 0 (rs.take i) ++ part i r.2 k).map toW ++ [.tup [.str "turn", .int (i : Nat), .str (ansAt b)]])], ?_, ?_⟩⟩))))))))⟩))
          · have hf : fits (((bars ++ turns 0 (rs.take i) ++ part i r.2 k).map toW).length + 1) = true := by
              have h1 := turns_len (rs.take i) 0
              have h2 : (part i r.2 k).length ≤ 3 := by unfold part; rw [List.length_map]; exact Nat.le_trans (List.length_filter_le _ _) (by rw [List.length_take]; simp [allA]; omega)
              have h3 : bars.length = 8 := rfl
              unfold fits
              simp only [List.length_map, List.length_append, h1, h3, List.length_take]
              exact decide_eq_true (by omega)
            show (if fits _ then some (R.w .non, _) else none) = _
            rw [if_pos hf]
            rfl
          · refine ⟨⟨_, rfl⟩, ?_⟩
            show _ = [Cell.lst ys, Cell.lst ((bars ++ turns 0 (rs.take i) ++ part i r.2 (k + 1)).map toW)]
            rw [pe, ← List.append_assoc, List.map_append (l₂ := [_])]
            simp only [List.map_cons, List.map_nil, turn_W (show i < 4 by omega)]
        · have e : ¬ b ≠ r.2 := of_decide_eq_false hb
          rw [if_neg e, List.append_nil] at pe
          refine t_snil ⟨⟨_, rfl⟩, ?_⟩
          show _ = [Cell.lst ys, Cell.lst ((bars ++ turns 0 (rs.take i) ++ part i r.2 (k + 1)).map toW)]
          rw [pe]
    · obtain ⟨⟨y0, rfl⟩, rfl⟩ := hI
      refine ⟨⟨_, _, rfl⟩, ?_⟩
      rw [turns_take rs 0 i r er, Nat.zero_add, ← List.append_assoc]
      rfl
  · obtain ⟨⟨x0, y0, rfl⟩, rfl⟩ := hI
    refine t_sret (t_eV rfl ⟨ys, _, _, rfl, rfl, ?_⟩)
    have e : rs.take ((List.range rs.length).map fun i => W.int (i : Nat)).length = rs := by simp
    rw [e]
    exact h
end
end Iv.T
end
section
set_option Elab.async false
set_option linter.all false
set_option maxRecDepth 100000
set_option maxHeartbeats 4000000
namespace Iv.T
open PySem PySem.Spec PyProof.Rows L2
/-! ### mends_of -/
theorem turns_fm (k : Fin 4) (a : Fin 3) : (answersL.map W.str).filterMap (fun x => if W.eqv x (.str (ansAt a)) then none else some (.tup [.str "turn", .int (k.val : Nat), x])) = ((allA.filter fun b => decide (b ≠ a)).map (Mend.turn k)).map toW := by
  match a with
  | 0 => rfl
  | 1 => rfl
  | 2 => rfl
section
variable {E : Exc → Sto → Prop} {ns : List Int} {ys : List W} {rest : Sto} {Q : R → Sto → Prop}
theorem t_mends_of {roles : List Str} {gs : List (Str × List W)} {rs : List (List (Str × Bool) × Fin 3)} {c j : Str} (hl : rs.length ≤ 4) (h : Q (.w (.lst ((known rs).map toW))) (.lst ys :: rest)) : Go E (callP f_mends_of [.w (bookW roles gs (numbered rs) c j)]) (.lst ys :: rest) Q := by
  refine t_call rfl (t_runB ?_)
  unfold g_mends_of
  repeat (first
      | refine t_seq ?_ | refine t_sset ?_ | refine t_sret ?_ | refine t_sexpr ?_ | refine t_snil ?_ | refine t_sif ?_ | refine t_asg ?_ | refine t_msub ?_
      | refine t_eV rfl ?_ | refine t_eC ?_ | refine t_e2 ?_ | refine t_e1 ?_ | refine t_eA ?_ | refine t_nil ?_ | refine t_cons ?_ | refine t_tup ?_ | refine t_lst ?_ | refine t_lstC ?_ | refine t_par ?_
      | refine t_tV ?_ | refine t_not ?_ | refine t_and ?_ | refine t_or ?_ | refine t_if ?_ | refine t_eand ?_ | refine t_eor ?_ | refine t_enot ?_ | refine t_eM ?_ | refine t_chain ?_ | refine t_ono ?_ | refine t_osome ?_ | refine t_sl ?_ | refine t_rcd ?_ | refine t_dicC ?_ | refine t_fld ?_ | refine t_yes ?_ | refine t_mscons ?_ | refine t_msnil ?_ | refine t_raise ?_ | refine t_par3 ?_ | refine t_unp ?_
      | refine t_callP ⟨rfl, ?_⟩ | refine t_callP ?_ | ((fail_if_success with_reducible refine goChk ?_); refine ⟨rfl, ?_⟩) | ((fail_if_success with_reducible refine goChk ?_); refine br_t rfl ?_) | ((fail_if_success with_reducible refine goChk ?_); refine br_f rfl ?_)
      | ((fail_if_success with_reducible refine goChk ?_); refine ⟨_, rfl, ?_⟩))
  refine t_sfor (t_itE (xs := (numbered rs).map fun r => ruleW r.1 r.2) (t_e1 (t_eV rfl ⟨_, rfl, .inl rfl, fun it ov => ⟨_, ov, fun i ρ st => (∃ x y z, ρ = [some (.w (bookW roles gs (numbered rs) c j)), some (.loc 1), x, none, y, z, none]) ∧ st = [.lst ys, .lst ((bars ++ turns 0 (rs.take i)).map toW)], ⟨⟨none, none, none, rfl⟩, by simp [turns]; rfl⟩, fun i x ρ st ex hI => ?_, fun ρ st hI => ?_⟩⟩)))
  · obtain ⟨⟨x0, y0, z0, rfl⟩, rfl⟩ := hI
    obtain ⟨r, er, rfl⟩ : ∃ r, rs[i]? = some r ∧ x = pairW (.int (i : Nat)) (ruleW r.1 (ansAt r.2)) := by
      rw [List.getElem?_mapIdx, List.getElem?_map] at ex
      unfold numbered at ex
      rw [List.getElem?_map] at ex
      cases e : rs[i]? with
      | none => rw [e] at ex; cases ex
      | some r => rw [e] at ex; exact ⟨r, rfl, by simpa using ex.symm⟩
    have hi : i < rs.length := (List.getElem?_eq_some_iff.mp er).1
    refine ⟨_, rfl, t_sexpr (t_eM (t_eV rfl ⟨rfl, t_cons (t_eLc (t_lcPure (t_itA_tup (xs := answersL.map W.str) (t_eC ⟨rfl, fun it ov => ⟨_, ov, by simp [answersL], fun x => if W.eqv x (.str (ansAt r.2)) then none else some (.tup [.str "turn", .int (i : Nat), x]), fun x hx => ?_, ?_⟩⟩))))⟩))⟩
    · rw [← allA_W] at hx
      obtain ⟨b, _, rfl⟩ := List.mem_map.mp hx
      refine ⟨_, rfl, t_tV (t_e2 (t_eV rfl (t_eV rfl ⟨.w (.bl (!decide (ansAt b = ansAt r.2))), rfl, _, rfl, fun hb => ?_, fun hb => ?_⟩)))⟩
      · repeat (first
          | refine t_seq ?_ | refine t_sset ?_ | refine t_sret ?_ | refine t_sexpr ?_ | refine t_snil ?_ | refine t_sif ?_ | refine t_asg ?_ | refine t_msub ?_
          | refine t_eV rfl ?_ | refine t_eC ?_ | refine t_e2 ?_ | refine t_e1 ?_ | refine t_eA ?_ | refine t_nil ?_ | refine t_cons ?_ | refine t_tup ?_ | refine t_lst ?_ | refine t_lstC ?_ | refine t_par ?_
          | refine t_tV ?_ | refine t_not ?_ | refine t_and ?_ | refine t_or ?_ | refine t_if ?_ | refine t_eand ?_ | refine t_eor ?_ | refine t_enot ?_ | refine t_eM ?_ | refine t_chain ?_ | refine t_ono ?_ | refine t_osome ?_ | refine t_sl ?_ | refine t_rcd ?_ | refine t_dicC ?_ | refine t_fld ?_ | refine t_yes ?_ | refine t_mscons ?_ | refine t_msnil ?_ | refine t_raise ?_ | refine t_par3 ?_ | refine t_unp ?_
          | refine t_callP ⟨rfl, ?_⟩ | refine t_callP ?_ | ((fail_if_success with_reducible refine goChk ?_); refine ⟨rfl, ?_⟩) | ((fail_if_success with_reducible refine goChk ?_); refine br_t rfl ?_) | ((fail_if_success with_reducible refine goChk ?_); refine br_f rfl ?_)
          | ((fail_if_success with_reducible refine goChk ?_); refine ⟨_, rfl, ?_⟩))
        show (if (ansAt b == ansAt r.2) = true then none else _) = _
        rw [if_neg (fun z => by rw [show decide (ansAt b = ansAt r.2) = true from z] at hb; cases hb)]
      · refine ⟨rfl, ?_⟩
        show (if (ansAt b == ansAt r.2) = true then none else _) = _
        rw [if_pos]
        exact (by simpa using hb : ansAt b = ansAt r.2) ▸ beq_self_eq_true _
    · have e1 : (answersL.map W.str).filterMap (fun x => if W.eqv x (.str (ansAt r.2)) then none else some (.tup [.str "turn", .int (i : Nat), x])) = (turnsOf i r.2).map toW := by
        rw [show (i : Int) = ((Fin.ofNat 4 i).val : Nat) by rw [ofNat4 (show i < 4 by omega)]]
        unfold turnsOf
        exact turns_fm _ _
      rw [e1]
      refine t_nil ⟨.w .non, [.lst ys, .lst ((bars ++ turns 0 (rs.take i)).map toW ++ (turnsOf i r.2).map toW)], ?_, ?_⟩
      · have hf : fits (((bars ++ turns 0 (rs.take i)).map toW).length + ((turnsOf i r.2).map toW).length) = true := by
          have h1 := turns_len (rs.take i) 0
          have h2 : (turnsOf i r.2).length ≤ 3 := by unfold turnsOf; rw [List.length_map]; exact Nat.le_trans (List.length_filter_le _ _) (by simp [allA])
          have h3 : bars.length = 8 := rfl
          unfold fits
          simp only [List.length_map, List.length_append, h1, h3, List.length_take]
          exact decide_eq_true (by omega)
        show (if fits _ then some (R.w .non, _) else none) = _
        rw [if_pos hf]
        rfl
      · refine ⟨⟨_, _, _, rfl⟩, ?_⟩
        show _ = [Cell.lst ys, Cell.lst ((bars ++ turns 0 (rs.take (i + 1))).map toW)]
        rw [turns_take rs 0 i r er, Nat.zero_add, ← List.append_assoc, List.map_append (l₂ := turnsOf i r.2)]
  · obtain ⟨⟨x0, y0, z0, rfl⟩, rfl⟩ := hI
    refine t_sret (t_eV rfl ⟨ys, _, _, rfl, rfl, ?_⟩)
    have e : rs.take (((numbered rs).map fun r => ruleW r.1 r.2).mapIdx fun i x => pairW (.int (i : Nat)) x).length = rs := by simp [numbered]
    rw [e]
    exact h
end
end Iv.T
end
section
set_option Elab.async false
set_option linter.all false
set_option maxRecDepth 100000
set_option maxHeartbeats 4000000
namespace Iv.T
open PySem PySem.Spec PyProof.Rows L2
/-! ### is_mend -/
def good : Mend → Bool
  | .bad _ => false
  | _ => true
def allB : List (Fin 10) := [0, 1, 2, 3, 4, 5, 6, 7, 8, 9]
def allM : List Mend := allW.map .bar ++ ([0, 1, 2, 3] : List (Fin 4)).flatMap (fun k => allA.map (.turn k)) ++ allB.map .bad
theorem mem_allM : ∀ m, m ∈ allM
  | .bar w => by revert w; decide
  | .turn k a => by revert k a; decide
  | .bad i => by revert i; decide
theorem eqv_tab : (allM.all fun m' => !good m' || allM.all fun m => decide (m = .bad 4) || (W.eqv (toW m') (toW m) == decide (m' = m))) = true := by
  decide +kernel
theorem pl_tab : (allM.all fun m => (toW m).pl 12) = true := by decide +kernel
def textOf (m : Mend) : Str := (shownW (toW m)).getD ""
theorem show_tab : (allM.all fun m => (shownW (toW m)).isSome) = true := by decide +kernel
theorem text_tab : (allM.all fun m' => allM.all fun m => decide (textOf m' = textOf m) == decide (m' = m)) = true := by decide +kernel
theorem eqv_mend {m' m : Mend} (h' : good m' = true) (h : m ≠ .bad 4) : W.eqv (toW m') (toW m) = decide (m' = m) := by
  have h1 := List.all_eq_true.mp eqv_tab m' (mem_allM m')
  rw [h', Bool.not_true, Bool.false_or] at h1
  have h2 := List.all_eq_true.mp h1 m (mem_allM m)
  rw [decide_eq_false h] at h2
  exact eq_of_beq h2
theorem pl_mend (m : Mend) : (toW m).pl 12 = true := List.all_eq_true.mp pl_tab m (mem_allM m)
theorem pl_up : ∀ (n : Nat) (x : W), x.pl n = true → x.pl (n + 1) = true
  | 0, x, h => by
    cases x <;> first | exact h | cases h
  | n + 1, x, h => by
    cases x <;> first | exact h | cases h | skip
    all_goals
      rename_i xs
      refine List.all_eq_true.mpr fun y hy => ?_
      exact pl_up n y (List.all_eq_true.mp (show xs.all (W.pl n) = true from h) y hy)
theorem text_inj {m' m : Mend} : decide (textOf m' = textOf m) = decide (m' = m) := eq_of_beq (List.all_eq_true.mp (List.all_eq_true.mp text_tab m' (mem_allM m')) m (mem_allM m))
theorem shown_mend (m : Mend) : shownW (toW m) = some (textOf m) := by
  have := List.all_eq_true.mp show_tab m (mem_allM m)
  unfold textOf
  obtain ⟨x, e⟩ := Option.isSome_iff_exists.mp this
  rw [e]
  rfl
theorem any_mend {K : List Mend} {m : Mend} (hK : ∀ m ∈ K, good m = true) (h : m ≠ .bad 4) : ((K.map toW).any fun y => W.eqv y (toW m)) = decide (m ∈ K) := by
  induction K with
  | nil => rfl
  | cons x r ih =>
    rw [List.map_cons, List.any_cons, eqv_mend (hK x (by simp)) h, ih fun m hm => hK m (List.mem_cons_of_mem _ hm)]
    by_cases e : x = m
    · subst e; simp
    · simp [e, Ne.symm e]
theorem in_mends {K : List Mend} {m : Mend} (hK : ∀ m ∈ K, good m = true) (h : m ≠ .bad 4) : inItems (toW m) (K.map toW) = some (decide (m ∈ K)) := by
  have hp : ((toW m).pl 15 && (K.map toW).all (W.pl 15)) = true := by
    have up : ∀ m, (toW m).pl 15 = true := fun m => pl_up _ _ (pl_up _ _ (pl_up _ _ (pl_mend m)))
    rw [up m, Bool.true_and]
    refine List.all_eq_true.mpr fun y hy => ?_
    obtain ⟨m', _, rfl⟩ := List.mem_map.mp hy
    exact up m'
  unfold inItems
  rw [any_mend hK h, hp]
  split <;> rfl
theorem in_texts {K : List Mend} (m : Mend) (st : Sto) : ninR2 st (.w (.str (textOf m))) (.w (.lst (K.map fun m => W.str (textOf m)))) = some (.w (.bl (!decide (m ∈ K)))) := by
  have h1 : (K.map fun m => W.str (textOf m)).all flatW = true := by simp [flatW]
  have h2 : ((K.map fun m => W.str (textOf m)).any fun y => W.eqv y (.str (textOf m))) = decide (m ∈ K) := by
    clear h1
    induction K with
    | nil => rfl
    | cons x r ih =>
      rw [List.map_cons, List.any_cons, ih, show W.eqv (.str (textOf x)) (.str (textOf m)) = decide (textOf x = textOf m) from rfl, text_inj]
      by_cases e : x = m
      · subst e; simp
      · simp [e, Ne.symm e]
  show ((inItems (.str (textOf m)) (K.map fun m => W.str (textOf m))).map fun b => R.w (.bl (!b))) = _
  unfold inItems
  rw [h1]
  simp only [flatW, Bool.and_self, if_true, h2]
  rfl
section
variable {E : Exc → Sto → Prop} {ns : List Int} {ys : List W} {rest : Sto} {Q : R → Sto → Prop}
theorem t_is_mend {K : List Mend} (hK : ∀ m ∈ K, good m = true) (m : Mend) (h : Q (.w (.bl (decide (m ∈ K)))) (.lst ys :: rest)) : Go E (callP f_is_mend [.w (toW m), .w (.lst (K.map toW))]) (.lst ys :: rest) Q := by
  have inm : m ≠ .bad 4 → flatW (toW m) = false → ∀ st, inR2 st (.w (toW m)) (.w (.lst (K.map toW))) = some (.w (.bl (decide (m ∈ K)))) := fun h4 hf st => by
    have e := in_mends hK h4
    have e2 : inR2 st (.w (toW m)) (.w (.lst (K.map toW))) = (inItems (toW m) (K.map toW)).map fun b => R.w (.bl b) := by
      cases ht : toW m <;> first | rfl | (rw [ht] at hf; cases hf)
    rw [e2, e]
    rfl
  have no : good m = false → decide (m ∈ K) = false := fun hg => decide_eq_false fun hm => by rw [hK m hm] at hg; cases hg
  refine t_call rfl (t_runB ?_)
  unfold g_is_mend
  match m with
  | .bar w =>
    have i := inm (by simp) rfl
    repeat (first
        | refine t_seq ?_ | refine t_sset ?_ | refine t_sret ?_ | refine t_sexpr ?_ | refine t_snil ?_ | refine t_sif ?_ | refine t_asg ?_ | refine t_msub ?_
        | refine t_eV rfl ?_ | refine t_eC ?_ | refine t_e2 ?_ | refine t_e1 ?_ | refine t_eA ?_ | refine t_nil ?_ | refine t_cons ?_ | refine t_tup ?_ | refine t_lst ?_ | refine t_lstC ?_ | refine t_par ?_
        | refine t_tV ?_ | refine t_not ?_ | refine t_and ?_ | refine t_or ?_ | refine t_if ?_ | refine t_eand ?_ | refine t_eor ?_ | refine t_enot ?_ | refine t_eM ?_ | refine t_chain ?_ | refine t_ono ?_ | refine t_osome ?_ | refine t_sl ?_ | refine t_rcd ?_ | refine t_dicC ?_ | refine t_fld ?_ | refine t_yes ?_ | refine t_mscons ?_ | refine t_msnil ?_ | refine t_raise ?_ | refine t_par3 ?_ | refine t_unp ?_
        | refine t_callP ⟨rfl, ?_⟩ | refine t_callP ?_ | ((fail_if_success with_reducible refine goChk ?_); refine ⟨rfl, ?_⟩) | ((fail_if_success with_reducible refine goChk ?_); refine br_t rfl ?_) | ((fail_if_success with_reducible refine goChk ?_); refine br_f rfl ?_)
        | ((fail_if_success with_reducible refine goChk ?_); refine ⟨_, rfl, ?_⟩))
    refine ⟨_, i _, ?_⟩
    exact ⟨ys, [], _, rfl, rfl, h⟩
  | .turn k a =>
    have i := inm (by simp) rfl
    repeat (first
        | refine t_seq ?_ | refine t_sset ?_ | refine t_sret ?_ | refine t_sexpr ?_ | refine t_snil ?_ | refine t_sif ?_ | refine t_asg ?_ | refine t_msub ?_
        | refine t_eV rfl ?_ | refine t_eC ?_ | refine t_e2 ?_ | refine t_e1 ?_ | refine t_eA ?_ | refine t_nil ?_ | refine t_cons ?_ | refine t_tup ?_ | refine t_lst ?_ | refine t_lstC ?_ | refine t_par ?_
        | refine t_tV ?_ | refine t_not ?_ | refine t_and ?_ | refine t_or ?_ | refine t_if ?_ | refine t_eand ?_ | refine t_eor ?_ | refine t_enot ?_ | refine t_eM ?_ | refine t_chain ?_ | refine t_ono ?_ | refine t_osome ?_ | refine t_sl ?_ | refine t_rcd ?_ | refine t_dicC ?_ | refine t_fld ?_ | refine t_yes ?_ | refine t_mscons ?_ | refine t_msnil ?_ | refine t_raise ?_ | refine t_par3 ?_ | refine t_unp ?_
        | refine t_callP ⟨rfl, ?_⟩ | refine t_callP ?_ | ((fail_if_success with_reducible refine goChk ?_); refine ⟨rfl, ?_⟩) | ((fail_if_success with_reducible refine goChk ?_); refine br_t rfl ?_) | ((fail_if_success with_reducible refine goChk ?_); refine br_f rfl ?_)
        | ((fail_if_success with_reducible refine goChk ?_); refine ⟨_, rfl, ?_⟩))
    refine ⟨_, i _, ?_⟩
    exact ⟨ys, [], _, rfl, rfl, h⟩
  | .bad 0 =>
    rw [no rfl] at h
    repeat (first
        | refine t_seq ?_ | refine t_sset ?_ | refine t_sret ?_ | refine t_sexpr ?_ | refine t_snil ?_ | refine t_sif ?_ | refine t_asg ?_ | refine t_msub ?_
        | refine t_eV rfl ?_ | refine t_eC ?_ | refine t_e2 ?_ | refine t_e1 ?_ | refine t_eA ?_ | refine t_nil ?_ | refine t_cons ?_ | refine t_tup ?_ | refine t_lst ?_ | refine t_lstC ?_ | refine t_par ?_
        | refine t_tV ?_ | refine t_not ?_ | refine t_and ?_ | refine t_or ?_ | refine t_if ?_ | refine t_eand ?_ | refine t_eor ?_ | refine t_enot ?_ | refine t_eM ?_ | refine t_chain ?_ | refine t_ono ?_ | refine t_osome ?_ | refine t_sl ?_ | refine t_rcd ?_ | refine t_dicC ?_ | refine t_fld ?_ | refine t_yes ?_ | refine t_mscons ?_ | refine t_msnil ?_ | refine t_raise ?_ | refine t_par3 ?_ | refine t_unp ?_
        | refine t_callP ⟨rfl, ?_⟩ | refine t_callP ?_ | ((fail_if_success with_reducible refine goChk ?_); refine ⟨rfl, ?_⟩) | ((fail_if_success with_reducible refine goChk ?_); refine br_t rfl ?_) | ((fail_if_success with_reducible refine goChk ?_); refine br_f rfl ?_)
        | ((fail_if_success with_reducible refine goChk ?_); refine ⟨_, rfl, ?_⟩))
    exact ⟨ys, [], _, rfl, rfl, h⟩
  | .bad 3 =>
    rw [no rfl] at h
    repeat (first
        | refine t_seq ?_ | refine t_sset ?_ | refine t_sret ?_ | refine t_sexpr ?_ | refine t_snil ?_ | refine t_sif ?_ | refine t_asg ?_ | refine t_msub ?_
        | refine t_eV rfl ?_ | refine t_eC ?_ | refine t_e2 ?_ | refine t_e1 ?_ | refine t_eA ?_ | refine t_nil ?_ | refine t_cons ?_ | refine t_tup ?_ | refine t_lst ?_ | refine t_lstC ?_ | refine t_par ?_
        | refine t_tV ?_ | refine t_not ?_ | refine t_and ?_ | refine t_or ?_ | refine t_if ?_ | refine t_eand ?_ | refine t_eor ?_ | refine t_enot ?_ | refine t_eM ?_ | refine t_chain ?_ | refine t_ono ?_ | refine t_osome ?_ | refine t_sl ?_ | refine t_rcd ?_ | refine t_dicC ?_ | refine t_fld ?_ | refine t_yes ?_ | refine t_mscons ?_ | refine t_msnil ?_ | refine t_raise ?_ | refine t_par3 ?_ | refine t_unp ?_
        | refine t_callP ⟨rfl, ?_⟩ | refine t_callP ?_ | ((fail_if_success with_reducible refine goChk ?_); refine ⟨rfl, ?_⟩) | ((fail_if_success with_reducible refine goChk ?_); refine br_t rfl ?_) | ((fail_if_success with_reducible refine goChk ?_); refine br_f rfl ?_)
        | ((fail_if_success with_reducible refine goChk ?_); refine ⟨_, rfl, ?_⟩))
    exact ⟨ys, [], _, rfl, rfl, h⟩
  | .bad 5 =>
    rw [no rfl] at h
    repeat (first
        | refine t_seq ?_ | refine t_sset ?_ | refine t_sret ?_ | refine t_sexpr ?_ | refine t_snil ?_ | refine t_sif ?_ | refine t_asg ?_ | refine t_msub ?_
        | refine t_eV rfl ?_ | refine t_eC ?_ | refine t_e2 ?_ | refine t_e1 ?_ | refine t_eA ?_ | refine t_nil ?_ | refine t_cons ?_ | refine t_tup ?_ | refine t_lst ?_ | refine t_lstC ?_ | refine t_par ?_
        | refine t_tV ?_ | refine t_not ?_ | refine t_and ?_ | refine t_or ?_ | refine t_if ?_ | refine t_eand ?_ | refine t_eor ?_ | refine t_enot ?_ | refine t_eM ?_ | refine t_chain ?_ | refine t_ono ?_ | refine t_osome ?_ | refine t_sl ?_ | refine t_rcd ?_ | refine t_dicC ?_ | refine t_fld ?_ | refine t_yes ?_ | refine t_mscons ?_ | refine t_msnil ?_ | refine t_raise ?_ | refine t_par3 ?_ | refine t_unp ?_
        | refine t_callP ⟨rfl, ?_⟩ | refine t_callP ?_ | ((fail_if_success with_reducible refine goChk ?_); refine ⟨rfl, ?_⟩) | ((fail_if_success with_reducible refine goChk ?_); refine br_t rfl ?_) | ((fail_if_success with_reducible refine goChk ?_); refine br_f rfl ?_)
        | ((fail_if_success with_reducible refine goChk ?_); refine ⟨_, rfl, ?_⟩))
    exact ⟨ys, [], _, rfl, rfl, h⟩
  | .bad 6 =>
    rw [no rfl] at h
    repeat (first
        | refine t_seq ?_ | refine t_sset ?_ | refine t_sret ?_ | refine t_sexpr ?_ | refine t_snil ?_ | refine t_sif ?_ | refine t_asg ?_ | refine t_msub ?_
        | refine t_eV rfl ?_ | refine t_eC ?_ | refine t_e2 ?_ | refine t_e1 ?_ | refine t_eA ?_ | refine t_nil ?_ | refine t_cons ?_ | refine t_tup ?_ | refine t_lst ?_ | refine t_lstC ?_ | refine t_par ?_
        | refine t_tV ?_ | refine t_not ?_ | refine t_and ?_ | refine t_or ?_ | refine t_if ?_ | refine t_eand ?_ | refine t_eor ?_ | refine t_enot ?_ | refine t_eM ?_ | refine t_chain ?_ | refine t_ono ?_ | refine t_osome ?_ | refine t_sl ?_ | refine t_rcd ?_ | refine t_dicC ?_ | refine t_fld ?_ | refine t_yes ?_ | refine t_mscons ?_ | refine t_msnil ?_ | refine t_raise ?_ | refine t_par3 ?_ | refine t_unp ?_
        | refine t_callP ⟨rfl, ?_⟩ | refine t_callP ?_ | ((fail_if_success with_reducible refine goChk ?_); refine ⟨rfl, ?_⟩) | ((fail_if_success with_reducible refine goChk ?_); refine br_t rfl ?_) | ((fail_if_success with_reducible refine goChk ?_); refine br_f rfl ?_)
        | ((fail_if_success with_reducible refine goChk ?_); refine ⟨_, rfl, ?_⟩))
    exact ⟨ys, [], _, rfl, rfl, h⟩
  | .bad 8 =>
    rw [no rfl] at h
    repeat (first
        | refine t_seq ?_ | refine t_sset ?_ | refine t_sret ?_ | refine t_sexpr ?_ | refine t_snil ?_ | refine t_sif ?_ | refine t_asg ?_ | refine t_msub ?_
        | refine t_eV rfl ?_ | refine t_eC ?_ | refine t_e2 ?_ | refine t_e1 ?_ | refine t_eA ?_ | refine t_nil ?_ | refine t_cons ?_ | refine t_tup ?_ | refine t_lst ?_ | refine t_lstC ?_ | refine t_par ?_
        | refine t_tV ?_ | refine t_not ?_ | refine t_and ?_ | refine t_or ?_ | refine t_if ?_ | refine t_eand ?_ | refine t_eor ?_ | refine t_enot ?_ | refine t_eM ?_ | refine t_chain ?_ | refine t_ono ?_ | refine t_osome ?_ | refine t_sl ?_ | refine t_rcd ?_ | refine t_dicC ?_ | refine t_fld ?_ | refine t_yes ?_ | refine t_mscons ?_ | refine t_msnil ?_ | refine t_raise ?_ | refine t_par3 ?_ | refine t_unp ?_
        | refine t_callP ⟨rfl, ?_⟩ | refine t_callP ?_ | ((fail_if_success with_reducible refine goChk ?_); refine ⟨rfl, ?_⟩) | ((fail_if_success with_reducible refine goChk ?_); refine br_t rfl ?_) | ((fail_if_success with_reducible refine goChk ?_); refine br_f rfl ?_)
        | ((fail_if_success with_reducible refine goChk ?_); refine ⟨_, rfl, ?_⟩))
    exact ⟨ys, [], _, rfl, rfl, h⟩
  | .bad 1 =>
    have i := inm (by decide) rfl
    repeat (first
        | refine t_seq ?_ | refine t_sset ?_ | refine t_sret ?_ | refine t_sexpr ?_ | refine t_snil ?_ | refine t_sif ?_ | refine t_asg ?_ | refine t_msub ?_
        | refine t_eV rfl ?_ | refine t_eC ?_ | refine t_e2 ?_ | refine t_e1 ?_ | refine t_eA ?_ | refine t_nil ?_ | refine t_cons ?_ | refine t_tup ?_ | refine t_lst ?_ | refine t_lstC ?_ | refine t_par ?_
        | refine t_tV ?_ | refine t_not ?_ | refine t_and ?_ | refine t_or ?_ | refine t_if ?_ | refine t_eand ?_ | refine t_eor ?_ | refine t_enot ?_ | refine t_eM ?_ | refine t_chain ?_ | refine t_ono ?_ | refine t_osome ?_ | refine t_sl ?_ | refine t_rcd ?_ | refine t_dicC ?_ | refine t_fld ?_ | refine t_yes ?_ | refine t_mscons ?_ | refine t_msnil ?_ | refine t_raise ?_ | refine t_par3 ?_ | refine t_unp ?_
        | refine t_callP ⟨rfl, ?_⟩ | refine t_callP ?_ | ((fail_if_success with_reducible refine goChk ?_); refine ⟨rfl, ?_⟩) | ((fail_if_success with_reducible refine goChk ?_); refine br_t rfl ?_) | ((fail_if_success with_reducible refine goChk ?_); refine br_f rfl ?_)
        | ((fail_if_success with_reducible refine goChk ?_); refine ⟨_, rfl, ?_⟩))
    refine ⟨_, i _, ?_⟩
    exact ⟨ys, [], _, rfl, rfl, h⟩
  | .bad 2 =>
    have i := inm (by decide) rfl
    repeat (first
        | refine t_seq ?_ | refine t_sset ?_ | refine t_sret ?_ | refine t_sexpr ?_ | refine t_snil ?_ | refine t_sif ?_ | refine t_asg ?_ | refine t_msub ?_
        | refine t_eV rfl ?_ | refine t_eC ?_ | refine t_e2 ?_ | refine t_e1 ?_ | refine t_eA ?_ | refine t_nil ?_ | refine t_cons ?_ | refine t_tup ?_ | refine t_lst ?_ | refine t_lstC ?_ | refine t_par ?_
        | refine t_tV ?_ | refine t_not ?_ | refine t_and ?_ | refine t_or ?_ | refine t_if ?_ | refine t_eand ?_ | refine t_eor ?_ | refine t_enot ?_ | refine t_eM ?_ | refine t_chain ?_ | refine t_ono ?_ | refine t_osome ?_ | refine t_sl ?_ | refine t_rcd ?_ | refine t_dicC ?_ | refine t_fld ?_ | refine t_yes ?_ | refine t_mscons ?_ | refine t_msnil ?_ | refine t_raise ?_ | refine t_par3 ?_ | refine t_unp ?_
        | refine t_callP ⟨rfl, ?_⟩ | refine t_callP ?_ | ((fail_if_success with_reducible refine goChk ?_); refine ⟨rfl, ?_⟩) | ((fail_if_success with_reducible refine goChk ?_); refine br_t rfl ?_) | ((fail_if_success with_reducible refine goChk ?_); refine br_f rfl ?_)
        | ((fail_if_success with_reducible refine goChk ?_); refine ⟨_, rfl, ?_⟩))
    refine ⟨_, i _, ?_⟩
    exact ⟨ys, [], _, rfl, rfl, h⟩
  | .bad 7 =>
    have i := inm (by decide) rfl
    repeat (first
        | refine t_seq ?_ | refine t_sset ?_ | refine t_sret ?_ | refine t_sexpr ?_ | refine t_snil ?_ | refine t_sif ?_ | refine t_asg ?_ | refine t_msub ?_
        | refine t_eV rfl ?_ | refine t_eC ?_ | refine t_e2 ?_ | refine t_e1 ?_ | refine t_eA ?_ | refine t_nil ?_ | refine t_cons ?_ | refine t_tup ?_ | refine t_lst ?_ | refine t_lstC ?_ | refine t_par ?_
        | refine t_tV ?_ | refine t_not ?_ | refine t_and ?_ | refine t_or ?_ | refine t_if ?_ | refine t_eand ?_ | refine t_eor ?_ | refine t_enot ?_ | refine t_eM ?_ | refine t_chain ?_ | refine t_ono ?_ | refine t_osome ?_ | refine t_sl ?_ | refine t_rcd ?_ | refine t_dicC ?_ | refine t_fld ?_ | refine t_yes ?_ | refine t_mscons ?_ | refine t_msnil ?_ | refine t_raise ?_ | refine t_par3 ?_ | refine t_unp ?_
        | refine t_callP ⟨rfl, ?_⟩ | refine t_callP ?_ | ((fail_if_success with_reducible refine goChk ?_); refine ⟨rfl, ?_⟩) | ((fail_if_success with_reducible refine goChk ?_); refine br_t rfl ?_) | ((fail_if_success with_reducible refine goChk ?_); refine br_f rfl ?_)
        | ((fail_if_success with_reducible refine goChk ?_); refine ⟨_, rfl, ?_⟩))
    refine ⟨_, i _, ?_⟩
    exact ⟨ys, [], _, rfl, rfl, h⟩
  | .bad 9 =>
    have i := inm (by decide) rfl
    repeat (first
        | refine t_seq ?_ | refine t_sset ?_ | refine t_sret ?_ | refine t_sexpr ?_ | refine t_snil ?_ | refine t_sif ?_ | refine t_asg ?_ | refine t_msub ?_
        | refine t_eV rfl ?_ | refine t_eC ?_ | refine t_e2 ?_ | refine t_e1 ?_ | refine t_eA ?_ | refine t_nil ?_ | refine t_cons ?_ | refine t_tup ?_ | refine t_lst ?_ | refine t_lstC ?_ | refine t_par ?_
        | refine t_tV ?_ | refine t_not ?_ | refine t_and ?_ | refine t_or ?_ | refine t_if ?_ | refine t_eand ?_ | refine t_eor ?_ | refine t_enot ?_ | refine t_eM ?_ | refine t_chain ?_ | refine t_ono ?_ | refine t_osome ?_ | refine t_sl ?_ | refine t_rcd ?_ | refine t_dicC ?_ | refine t_fld ?_ | refine t_yes ?_ | refine t_mscons ?_ | refine t_msnil ?_ | refine t_raise ?_ | refine t_par3 ?_ | refine t_unp ?_
        | refine t_callP ⟨rfl, ?_⟩ | refine t_callP ?_ | ((fail_if_success with_reducible refine goChk ?_); refine ⟨rfl, ?_⟩) | ((fail_if_success with_reducible refine goChk ?_); refine br_t rfl ?_) | ((fail_if_success with_reducible refine goChk ?_); refine br_f rfl ?_)
        | ((fail_if_success with_reducible refine goChk ?_); refine ⟨_, rfl, ?_⟩))
    refine ⟨_, i _, ?_⟩
    exact ⟨ys, [], _, rfl, rfl, h⟩
  | .bad 4 =>
    rw [no rfl] at h
    repeat (first
        | refine t_seq ?_ | refine t_sset ?_ | refine t_sret ?_ | refine t_sexpr ?_ | refine t_snil ?_ | refine t_sif ?_ | refine t_asg ?_ | refine t_msub ?_
        | refine t_eV rfl ?_ | refine t_eC ?_ | refine t_e2 ?_ | refine t_e1 ?_ | refine t_eA ?_ | refine t_nil ?_ | refine t_cons ?_ | refine t_tup ?_ | refine t_lst ?_ | refine t_lstC ?_ | refine t_par ?_
        | refine t_tV ?_ | refine t_not ?_ | refine t_and ?_ | refine t_or ?_ | refine t_if ?_ | refine t_eand ?_ | refine t_eor ?_ | refine t_enot ?_ | refine t_eM ?_ | refine t_chain ?_ | refine t_ono ?_ | refine t_osome ?_ | refine t_sl ?_ | refine t_rcd ?_ | refine t_dicC ?_ | refine t_fld ?_ | refine t_yes ?_ | refine t_mscons ?_ | refine t_msnil ?_ | refine t_raise ?_ | refine t_par3 ?_ | refine t_unp ?_
        | refine t_callP ⟨rfl, ?_⟩ | refine t_callP ?_ | ((fail_if_success with_reducible refine goChk ?_); refine ⟨rfl, ?_⟩) | ((fail_if_success with_reducible refine goChk ?_); refine br_t rfl ?_) | ((fail_if_success with_reducible refine goChk ?_); refine br_f rfl ?_)
        | ((fail_if_success with_reducible refine goChk ?_); refine ⟨_, rfl, ?_⟩))
    refine t_one_of (g := "turn") (xs := ["bar", "turn"]) (by simp) ?_
    repeat (first
        | refine t_seq ?_ | refine t_sset ?_ | refine t_sret ?_ | refine t_sexpr ?_ | refine t_snil ?_ | refine t_sif ?_ | refine t_asg ?_ | refine t_msub ?_
        | refine t_eV rfl ?_ | refine t_eC ?_ | refine t_e2 ?_ | refine t_e1 ?_ | refine t_eA ?_ | refine t_nil ?_ | refine t_cons ?_ | refine t_tup ?_ | refine t_lst ?_ | refine t_lstC ?_ | refine t_par ?_
        | refine t_tV ?_ | refine t_not ?_ | refine t_and ?_ | refine t_or ?_ | refine t_if ?_ | refine t_eand ?_ | refine t_eor ?_ | refine t_enot ?_ | refine t_eM ?_ | refine t_chain ?_ | refine t_ono ?_ | refine t_osome ?_ | refine t_sl ?_ | refine t_rcd ?_ | refine t_dicC ?_ | refine t_fld ?_ | refine t_yes ?_ | refine t_mscons ?_ | refine t_msnil ?_ | refine t_raise ?_ | refine t_par3 ?_ | refine t_unp ?_
        | refine t_callP ⟨rfl, ?_⟩ | refine t_callP ?_ | ((fail_if_success with_reducible refine goChk ?_); refine ⟨rfl, ?_⟩) | ((fail_if_success with_reducible refine goChk ?_); refine br_t rfl ?_) | ((fail_if_success with_reducible refine goChk ?_); refine br_f rfl ?_)
        | ((fail_if_success with_reducible refine goChk ?_); refine ⟨_, rfl, ?_⟩))
    refine .of (a := .w (.bl false)) (st' := [.lst ys]) rfl ?_
    repeat (first
        | refine t_seq ?_ | refine t_sset ?_ | refine t_sret ?_ | refine t_sexpr ?_ | refine t_snil ?_ | refine t_sif ?_ | refine t_asg ?_ | refine t_msub ?_
        | refine t_eV rfl ?_ | refine t_eC ?_ | refine t_e2 ?_ | refine t_e1 ?_ | refine t_eA ?_ | refine t_nil ?_ | refine t_cons ?_ | refine t_tup ?_ | refine t_lst ?_ | refine t_lstC ?_ | refine t_par ?_
        | refine t_tV ?_ | refine t_not ?_ | refine t_and ?_ | refine t_or ?_ | refine t_if ?_ | refine t_eand ?_ | refine t_eor ?_ | refine t_enot ?_ | refine t_eM ?_ | refine t_chain ?_ | refine t_ono ?_ | refine t_osome ?_ | refine t_sl ?_ | refine t_rcd ?_ | refine t_dicC ?_ | refine t_fld ?_ | refine t_yes ?_ | refine t_mscons ?_ | refine t_msnil ?_ | refine t_raise ?_ | refine t_par3 ?_ | refine t_unp ?_
        | refine t_callP ⟨rfl, ?_⟩ | refine t_callP ?_ | ((fail_if_success with_reducible refine goChk ?_); refine ⟨rfl, ?_⟩) | ((fail_if_success with_reducible refine goChk ?_); refine br_t rfl ?_) | ((fail_if_success with_reducible refine goChk ?_); refine br_f rfl ?_)
        | ((fail_if_success with_reducible refine goChk ?_); refine ⟨_, rfl, ?_⟩))
    exact ⟨ys, [], _, rfl, rfl, h⟩
end
end Iv.T
end
section
set_option Elab.async false
set_option linter.all false
set_option maxRecDepth 100000
set_option maxHeartbeats 4000000
namespace Iv.T
open PySem PySem.Spec PyProof.Rows L2
/-! ### what mends come to -/
abbrev Turned := List (Fin 4 × Fin 3)
def dW (D : Turned) : List (W × W) := D.map fun p => (.int (p.1.val : Nat), .str (ansAt p.2))
def dFind (D : Turned) (k : Fin 4) : Option (Fin 3) := (D.find? fun p => decide (p.1 = k)).map (·.2)
def dPut (D : Turned) (k : Fin 4) (a : Fin 3) : Turned := if D.any (fun p => decide (p.1 = k)) then D.map (fun p => if p.1 = k then (p.1, a) else p) else D ++ [(k, a)]
theorem key_int (k k' : Fin 4) : keyEq (.int (k.val : Nat)) (.int (k'.val : Nat)) = decide (k = k') := by
  show decide (((k.val : Nat) : Int) = ((k'.val : Nat) : Int)) = _
  by_cases h : k = k'
  · subst h; simp
  · have : ¬ ((k.val : Nat) : Int) = ((k'.val : Nat) : Int) := fun e => h (Fin.ext (by omega))
    simp only [h, this]
theorem dW_find (D : Turned) (k : Fin 4) : findD (dW D) (.int (k.val : Nat)) = (dFind D k).map fun a => .str (ansAt a) := by
  induction D with
  | nil => rfl
  | cons x r ih =>
    unfold findD dW dFind at *
    rw [List.map_cons, List.find?_cons, List.find?_cons, key_int]
    by_cases h : x.1 = k
    · simp [h]
    · simp only [h, decide_false]; exact ih
theorem dW_put (D : Turned) (k : Fin 4) (a : Fin 3) : putD (dW D) (.int (k.val : Nat)) (.str (ansAt a)) = dW (dPut D k a) := by
  have h1 : (dW D).any (fun p => keyEq p.1 (.int (k.val : Nat))) = D.any (fun p => decide (p.1 = k)) := by
    unfold dW
    rw [List.any_map]
    congr 1
    funext p
    exact key_int p.1 k
  unfold putD dPut
  rw [h1]
  by_cases h : D.any (fun p => decide (p.1 = k)) = true
  · rw [if_pos h, if_pos h]
    unfold dW
    rw [List.map_map, List.map_map]
    congr 1
    funext p
    simp only [Function.comp, key_int]
    by_cases e : p.1 = k
    · simp [e]
    · simp [e]
  · rw [if_neg h, if_neg h]
    simp [dW]
def stepM (K : List Mend) (D : Turned) (m : Mend) : Option Turned := if m ∈ K then (match m with
  | .turn k a => if (dFind D k).getD a = a then some (dPut D k a) else none
  | _ => some D) else none
def runM (K L : List Mend) (i : Nat) : Option Turned := (L.take i).foldlM (stepM K) []
theorem runM_succ {K L : List Mend} {i : Nat} {m : Mend} (h : L[i]? = some m) : runM K L (i + 1) = (runM K L i).bind fun D => stepM K D m := by
  unfold runM
  rw [List.take_succ, h, List.foldlM_append]
  simp
def dAdd (D : Turned) : Mend → Turned
  | .turn k a => dPut D k a
  | _ => D
def dOf (L : List Mend) : Turned := L.foldl dAdd []
theorem step_add {K : List Mend} {D D' : Turned} {m : Mend} (h : stepM K D m = some D') : m ∈ K ∧ D' = dAdd D m := by
  unfold stepM at h
  split at h
  · rename_i hm
    refine ⟨hm, ?_⟩
    cases m with
    | turn k a =>
      simp only at h
      split at h
      · exact (Option.some.inj h).symm
      · cases h
    | bar w => exact (Option.some.inj h).symm
    | bad i => exact (Option.some.inj h).symm
  · cases h
theorem runM_of {K L : List Mend} : ∀ {i : Nat} {D : Turned}, runM K L i = some D → (∀ m ∈ L.take i, m ∈ K) ∧ D = dOf (L.take i)
  | 0, D, h => by
    refine ⟨fun m hm => by simp at hm, ?_⟩
    exact (Option.some.inj h).symm
  | i + 1, D, h => by
    cases e : L[i]? with
    | none =>
      have hl : L.length ≤ i := List.getElem?_eq_none_iff.mp e
      have e1 : L.take (i + 1) = L.take i := by rw [List.take_of_length_le (by omega), List.take_of_length_le hl]
      have h' : runM K L i = some D := by unfold runM at *; rw [← e1]; exact h
      rw [e1]
      exact runM_of h'
    | some m =>
      rw [runM_succ e] at h
      obtain ⟨D0, h0, h1⟩ := Option.bind_eq_some_iff.mp h
      obtain ⟨a, b⟩ := runM_of h0
      obtain ⟨c, d⟩ := step_add h1
      have e1 : L.take (i + 1) = L.take i ++ [m] := by rw [List.take_succ, e]; rfl
      rw [e1]
      refine ⟨fun m' hm => ?_, ?_⟩
      · rcases List.mem_append.mp hm with z | z
        · exact a m' z
        · rw [List.mem_singleton.mp z]; exact c
      · rw [d, b]
        unfold dOf
        rw [List.foldl_append]
        rfl
theorem runM_none {K L : List Mend} {i : Nat} (h : runM K L i = none) : ∀ j, i ≤ j → runM K L j = none := by
  intro j hj
  obtain ⟨n, rfl⟩ := Nat.le.dest hj
  clear hj
  induction n with
  | zero => exact h
  | succ n ih =>
    cases e : L[i + n]? with
    | none =>
      have hl : L.length ≤ i + n := List.getElem?_eq_none_iff.mp e
      unfold runM at *
      rw [List.take_of_length_le (show L.length ≤ i + (n + 1) by omega)]
      rw [List.take_of_length_le hl] at ih
      exact ih
    | some m =>
      show runM K L (i + n + 1) = none
      rw [runM_succ e, ih]
      rfl
/-- the rules of the mended book -/
abbrev RuleN := List (Str × Bool) × Fin 3
def barRule (w : Fin 8) : RuleN := ([(wordAt w, true)], 0)
def turned (D : Turned) (i : Nat) (r : RuleN) : RuleN := (r.1, (dFind D (Fin.ofNat 4 i)).getD r.2)
def newRules (L : List Mend) (rs : List RuleN) : List RuleN := (allW.filter fun w => decide (Mend.bar w ∈ L)).map barRule ++ rs.mapIdx (turned (dOf L))
def sixW : W := .lst [.str "rule", .int 6]
def finW (L : List Mend) (rs : List RuleN) : W := if 6 < (newRules L rs).length then sixW else rulesW (numbered (newRules L rs))
def Ans (K L : List Mend) (rs : List RuleN) (v : W) : Prop := (∃ i D, i < L.length ∧ runM K L i = some D ∧ runM K L (i + 1) = none ∧ v = .lst [.str "mend", .int (i : Nat)]) ∨ ∃ D, runM K L L.length = some D ∧ v = finW L rs
theorem Ans.uniq {K L : List Mend} {rs : List RuleN} {v v' : W} (h : Ans K L rs v) (h' : Ans K L rs v') : v = v' := by
  rcases h with ⟨i, D, hi, h1, h2, rfl⟩ | ⟨D, h1, rfl⟩
  · rcases h' with ⟨i', D', hi', h1', h2', rfl⟩ | ⟨D', h1', rfl⟩
    · have : i = i' := by
        rcases Nat.lt_trichotomy i i' with z | z | z
        · have := runM_none h2 i' z; rw [h1'] at this; cases this
        · exact z
        · have := runM_none h2' i z; rw [h1] at this; cases this
      subst this
      rfl
    · have := runM_none h2 L.length hi
      rw [h1'] at this; cases this
  · rcases h' with ⟨i', D', hi', h1', h2', rfl⟩ | ⟨D', h1', rfl⟩
    · have := runM_none h2' L.length hi'
      rw [h1] at this; cases this
    · rfl
theorem new_rule {L : List Mend} {rs : List RuleN} (h : ∀ r ∈ numbered rs, Rule r.1 r.2) : ∀ r ∈ numbered (newRules L rs), Rule r.1 r.2 := by
  have am : ∀ a : Fin 3, ansAt a ∈ answersL := by decide
  have wm : ∀ w : Fin 8, wordAt w ∈ wordsL := by decide
  intro r hr
  obtain ⟨q, hq, rfl⟩ := List.mem_map.mp hr
  rcases List.mem_append.mp hq with z | z
  · obtain ⟨w, _, rfl⟩ := List.mem_map.mp z
    refine ⟨?_, by simp [barRule], am (barRule w).2⟩
    have : wordAt w ∈ wordsL := wm w
    simpa [barRule] using this
  · obtain ⟨i, hi, rfl⟩ := List.mem_mapIdx.mp z
    have := h _ (List.mem_map.mpr ⟨rs[i], List.getElem_mem hi, rfl⟩)
    exact ⟨this.sub, this.len, am (turned (dOf L) i rs[i]).2⟩
end Iv.T
end
section
set_option Elab.async false
set_option linter.all false
set_option maxRecDepth 100000
set_option maxHeartbeats 4000000
namespace Iv.T
open PySem PySem.Spec PyProof.Rows L2
/-! ### made -/
def bF (L : List Mend) (x : W) : Option W := if (L.map toW).any (fun y => W.eqv y (.tup [.str "bar", x])) then some (.tup [.tup [.tup [x, .bl true]], .str "refuse"]) else none
def dF (x : W) : Option (W × W) := match x with
  | .tup [_, k, a] => some (k, a)
  | _ => none
def rF (D : Turned) (x : W) : Option W := match x with
  | .tup [.int i, .tup [ts, a]] => some (.tup [ts, (findD (dW D) (.int i)).getD a])
  | _ => none
theorem bF_all {L : List Mend} (hL : ∀ m ∈ L, good m = true) : (wordsL.map W.str).filterMap (bF L) = (numbered ((allW.filter fun w => decide (Mend.bar w ∈ L)).map barRule)).map fun r => ruleW r.1 r.2 := by
  rw [← allW_W, List.filterMap_map]
  have e : ∀ w : Fin 8, (bF L ∘ fun a => W.str (wordAt a)) w = if decide (Mend.bar w ∈ L) = true then some (ruleW (barRule w).1 (ansAt (barRule w).2)) else none := fun w => by
    show bF L (.str (wordAt w)) = _
    unfold bF
    rw [show W.tup [.str "bar", .str (wordAt w)] = toW (.bar w) from rfl, any_mend hL (by simp)]
    rfl
  rw [show (bF L ∘ fun a => W.str (wordAt a)) = fun w => if decide (Mend.bar w ∈ L) = true then some (ruleW (barRule w).1 (ansAt (barRule w).2)) else none from funext e]
  generalize allW = A
  induction A with
  | nil => rfl
  | cons x r ih =>
    rw [List.filterMap_cons, List.filter_cons]
    by_cases h : decide (Mend.bar x ∈ L) = true
    · rw [if_pos h, if_pos h]
      simp only [numbered, List.map_cons] at ih ⊢
      rw [ih]
    · rw [if_neg h, if_neg h]
      exact ih
theorem dF_all : ∀ (L : List Mend), (∀ m ∈ L, good m = true) → ∀ D, ((L.map toW).filterMap dF).foldl (fun a p => putD a p.1 p.2) (dW D) = dW (L.foldl dAdd D)
  | [], _, D => rfl
  | .bar w :: r, h, D => dF_all r (fun m hm => h m (List.mem_cons_of_mem _ hm)) D
  | .turn k a :: r, h, D => by
    show ((r.map toW).filterMap dF).foldl _ (putD (dW D) (.int (k.val : Nat)) (.str (ansAt a))) = _
    rw [dW_put]
    exact dF_all r (fun m hm => h m (List.mem_cons_of_mem _ hm)) (dPut D k a)
  | .bad i :: r, h, D => by cases h (.bad i) (by simp)
theorem rF_one {D : Turned} {i : Nat} (hi : i < 4) (r : RuleN) : rF D (pairW (.int (i : Nat)) (ruleW r.1 (ansAt r.2))) = some (ruleW (turned D i r).1 (ansAt (turned D i r).2)) := by
  show some (W.tup [.tup (r.1.map testW), (findD (dW D) (.int (i : Nat))).getD (.str (ansAt r.2))]) = _
  rw [show ((i : Nat) : Int) = ((Fin.ofNat 4 i).val : Nat) by rw [ofNat4 hi], dW_find]
  unfold turned ruleW
  cases dFind D (Fin.ofNat 4 i) <;> rfl
theorem rF_all {D : Turned} : ∀ (rs : List RuleN) (k : Nat), k + rs.length ≤ 4 → ((rs.map fun r => ruleW r.1 (ansAt r.2)).mapIdx fun i x => pairW (.int ((k + i : Nat) : Nat)) x).filterMap (rF D) = (rs.mapIdx fun i r => turned D (k + i) r).map fun r => ruleW r.1 (ansAt r.2)
  | [], _, _ => rfl
  | r :: t, k, h => by
    have ih := rF_all (D := D) t (k + 1) (by simp at h; omega)
    rw [List.map_cons, List.mapIdx_cons, List.filterMap_cons, Nat.add_zero, rF_one (by simp at h; omega), List.mapIdx_cons]
    simp only [List.map_cons, Nat.add_zero]
    rw [show (fun (i : Nat) (x : W) => pairW (.int ((k + (i + 1) : Nat) : Nat)) x) = fun (i : Nat) (x : W) => pairW (.int ((k + 1 + i : Nat) : Nat)) x from funext fun i => by rw [show k + (i + 1) = k + 1 + i by omega], ih,
      show (fun (i : Nat) r => turned D (k + (i + 1)) r) = fun (i : Nat) r => turned D (k + 1 + i) r from funext fun i => by rw [show k + (i + 1) = k + 1 + i by omega]]
theorem numbered_map (rs : List RuleN) : (numbered rs).map (fun r => ruleW r.1 r.2) = rs.map fun r => ruleW r.1 (ansAt r.2) := by simp [numbered]
theorem rF_all0 {D : Turned} {rs : List RuleN} (h : rs.length ≤ 4) : (((numbered rs).map fun r => ruleW r.1 r.2).mapIdx fun i x => pairW (.int (i : Nat)) x).filterMap (rF D) = (numbered (rs.mapIdx (turned D))).map fun r => ruleW r.1 r.2 := by
  have := rF_all (D := D) rs 0 (by omega)
  simp only [Nat.zero_add] at this
  rw [numbered_map, numbered_map, this]
section
variable {E : Exc → Sto → Prop} {ns : List Int} {ys : List W} {rest : Sto} {Q : R → Sto → Prop}
theorem t_made {roles : List Str} {gs : List (Str × List W)} {rs : List RuleN} {c j : Str} {L : List Mend} (hr : roles ∈ rolesL) (hg : GsOk roles gs) (hl : ∀ r ∈ numbered rs, Rule r.1 r.2) (hc : c ∈ (["keep", "take"] : List Str)) (hj : j ∈ (["greater", "less"] : List Str)) (h4 : rs.length ≤ 4) (hL : ∀ m ∈ L, good m = true) (hn : L.length ≤ 1000)
    (h : (newRules L rs).length ≤ 6 → Q (.w (bookW roles (givenL roles gs) (numbered (newRules L rs)) c j)) (.lst ys :: rest)) (hx : 6 < (newRules L rs).length → E ⟨"InvalidRule", [("index", .int 6)]⟩ (.lst ys :: rest)) : Go E (callP f_made [.w (bookW roles gs (numbered rs) c j), .w (.lst (L.map toW))]) (.lst ys :: rest) Q := by
  refine t_call rfl (t_runB ?_)
  unfold g_made
  refine t_seq (t_sset (t_eLc (t_lcPure (t_itA_tup (xs := wordsL.map W.str) (t_eC ⟨rfl, fun it ov => ⟨_, ov, by simp [wordsL], bF L, fun x hx => ?_, ?_⟩⟩)))))
  · rw [← allW_W] at hx
    obtain ⟨w, _, rfl⟩ := List.mem_map.mp hx
    have ei := in_mends hL (m := .bar w) (by simp)
    have ea := any_mend hL (m := .bar w) (by simp)
    refine ⟨_, rfl, t_tV (t_e2 (t_tup (t_cons (t_eC (t_cons (t_eV rfl (t_nil ⟨_, rfl, rfl, t_eV rfl ⟨.w (.bl (decide (Mend.bar w ∈ L))), ?_, _, rfl, fun hb => ?_, fun hb => ?_⟩⟩)))))))⟩
    · show (inItems (toW (.bar w)) (L.map toW)).map (fun b => R.w (.bl b)) = _
      rw [ei]
      rfl
    · repeat (first
        | refine t_seq ?_ | refine t_sset ?_ | refine t_sret ?_ | refine t_sexpr ?_ | refine t_snil ?_ | refine t_sif ?_ | refine t_asg ?_ | refine t_msub ?_
        | refine t_eV rfl ?_ | refine t_eC ?_ | refine t_e2 ?_ | refine t_e1 ?_ | refine t_eA ?_ | refine t_nil ?_ | refine t_cons ?_ | refine t_tup ?_ | refine t_lst ?_ | refine t_lstC ?_ | refine t_par ?_
        | refine t_tV ?_ | refine t_not ?_ | refine t_and ?_ | refine t_or ?_ | refine t_if ?_ | refine t_eand ?_ | refine t_eor ?_ | refine t_enot ?_ | refine t_eM ?_ | refine t_chain ?_ | refine t_ono ?_ | refine t_osome ?_ | refine t_sl ?_ | refine t_rcd ?_ | refine t_dicC ?_ | refine t_fld ?_ | refine t_yes ?_ | refine t_mscons ?_ | refine t_msnil ?_ | refine t_raise ?_ | refine t_par3 ?_ | refine t_unp ?_
        | refine t_callP ⟨rfl, ?_⟩ | refine t_callP ?_ | ((fail_if_success with_reducible refine goChk ?_); refine ⟨rfl, ?_⟩) | ((fail_if_success with_reducible refine goChk ?_); refine br_t rfl ?_) | ((fail_if_success with_reducible refine goChk ?_); refine br_f rfl ?_)
        | ((fail_if_success with_reducible refine goChk ?_); refine ⟨_, rfl, ?_⟩))
      show (if (L.map toW).any (fun y => W.eqv y (toW (.bar w))) = true then _ else _) = _
      rw [ea, if_pos hb]
    · refine ⟨rfl, ?_⟩
      show (if (L.map toW).any (fun y => W.eqv y (toW (.bar w))) = true then _ else _) = _
      rw [ea, hb]
      rfl
  · rw [bF_all hL]
    refine t_seq (t_sset (t_eDc (t_itA_lst (xs := L.map toW) (t_eV rfl ⟨rfl, fun it ov => ⟨_, ov, by simp; omega, dF, fun x hx => ?_, ?_⟩⟩))))
    · obtain ⟨m, hm, rfl⟩ := List.mem_map.mp hx
      have hgm := hL m hm
      refine ⟨_, rfl, ?_⟩
      match m, hgm with
      | .bar w, _ =>
        repeat (first
            | refine t_seq ?_ | refine t_sset ?_ | refine t_sret ?_ | refine t_sexpr ?_ | refine t_snil ?_ | refine t_sif ?_ | refine t_asg ?_ | refine t_msub ?_
            | refine t_eV rfl ?_ | refine t_eC ?_ | refine t_e2 ?_ | refine t_e1 ?_ | refine t_eA ?_ | refine t_nil ?_ | refine t_cons ?_ | refine t_tup ?_ | refine t_lst ?_ | refine t_lstC ?_ | refine t_par ?_
            | refine t_tV ?_ | refine t_not ?_ | refine t_and ?_ | refine t_or ?_ | refine t_if ?_ | refine t_eand ?_ | refine t_eor ?_ | refine t_enot ?_ | refine t_eM ?_ | refine t_chain ?_ | refine t_ono ?_ | refine t_osome ?_ | refine t_sl ?_ | refine t_rcd ?_ | refine t_dicC ?_ | refine t_fld ?_ | refine t_yes ?_ | refine t_mscons ?_ | refine t_msnil ?_ | refine t_raise ?_ | refine t_par3 ?_ | refine t_unp ?_
            | refine t_callP ⟨rfl, ?_⟩ | refine t_callP ?_ | ((fail_if_success with_reducible refine goChk ?_); refine ⟨rfl, ?_⟩) | ((fail_if_success with_reducible refine goChk ?_); refine br_t rfl ?_) | ((fail_if_success with_reducible refine goChk ?_); refine br_f rfl ?_)
            | ((fail_if_success with_reducible refine goChk ?_); refine ⟨_, rfl, ?_⟩))
        rfl
      | .turn k a, _ =>
        repeat (first
            | refine t_seq ?_ | refine t_sset ?_ | refine t_sret ?_ | refine t_sexpr ?_ | refine t_snil ?_ | refine t_sif ?_ | refine t_asg ?_ | refine t_msub ?_
            | refine t_eV rfl ?_ | refine t_eC ?_ | refine t_e2 ?_ | refine t_e1 ?_ | refine t_eA ?_ | refine t_nil ?_ | refine t_cons ?_ | refine t_tup ?_ | refine t_lst ?_ | refine t_lstC ?_ | refine t_par ?_
            | refine t_tV ?_ | refine t_not ?_ | refine t_and ?_ | refine t_or ?_ | refine t_if ?_ | refine t_eand ?_ | refine t_eor ?_ | refine t_enot ?_ | refine t_eM ?_ | refine t_chain ?_ | refine t_ono ?_ | refine t_osome ?_ | refine t_sl ?_ | refine t_rcd ?_ | refine t_dicC ?_ | refine t_fld ?_ | refine t_yes ?_ | refine t_mscons ?_ | refine t_msnil ?_ | refine t_raise ?_ | refine t_par3 ?_ | refine t_unp ?_
            | refine t_callP ⟨rfl, ?_⟩ | refine t_callP ?_ | ((fail_if_success with_reducible refine goChk ?_); refine ⟨rfl, ?_⟩) | ((fail_if_success with_reducible refine goChk ?_); refine br_t rfl ?_) | ((fail_if_success with_reducible refine goChk ?_); refine br_f rfl ?_)
            | ((fail_if_success with_reducible refine goChk ?_); refine ⟨_, rfl, ?_⟩))
        exact ⟨_, _, rfl, rfl, rfl, rfl⟩
    · have e := dF_all L hL []
      rw [show (List.foldl (fun a p => putD a p.1 p.2) [] ((L.map toW).filterMap dF)) = dW (dOf L) from e]
      refine t_seq (t_sset (t_eLc (t_lcPure (t_itE (xs := (numbered rs).map fun r => ruleW r.1 r.2) (t_e1 (t_eV rfl ⟨_, rfl, .inl rfl, fun it ov => ⟨_, ov, by simp [numbered]; omega, rF (dOf L), fun x hx => ?_, ?_⟩⟩))))))
      · rw [numbered_map] at hx
        obtain ⟨i, hi, rfl⟩ := List.mem_mapIdx.mp hx
        rw [List.getElem_map]
        have hi' : i < 4 := by simp at hi; omega
        have er := rF_one (D := dOf L) hi' (rs[i]'(by simpa using hi))
        refine ⟨_, rfl, t_yes (br_t rfl ?_)⟩
        refine t_tup (t_cons (t_eV rfl (t_cons ?_)))
        refine t_eM (t_eV rfl ⟨rfl, ?_⟩)
        refine t_cons (t_eV rfl (t_cons (t_eV rfl (t_nil ?_))))
        refine ⟨.w ((findD (dW (dOf L)) (.int (i : Nat))).getD (.str (ansAt (rs[i]'(by simpa using hi)).2))), [.lst ys, .dic false (dW (dOf L))], ?_, ?_⟩
        · show some ((((findD (dW (dOf L)) (.int (i : Nat))).map R.w).getD _), _) = _
          cases findD (dW (dOf L)) (.int (i : Nat)) <;> rfl
        · exact t_nil ⟨_, rfl, rfl, rfl, _, rfl, rfl⟩
      · rw [rF_all0 h4]
        have e2 : ∀ A B : List RuleN, (numbered A).map (fun r => ruleW r.1 r.2) ++ (numbered B).map (fun r => ruleW r.1 r.2) = (numbered (A ++ B)).map fun r => ruleW r.1 r.2 := fun A B => by simp [numbered]
        have hf : fits (((numbered ((allW.filter fun w => decide (Mend.bar w ∈ L)).map barRule)).map fun r => ruleW r.1 r.2).length + ((numbered (rs.mapIdx (turned (dOf L)))).map fun r => ruleW r.1 r.2).length) = true := by
          have := List.length_filter_le (fun w => decide (Mend.bar w ∈ L)) allW
          have h8 : allW.length = 8 := rfl
          unfold fits
          simp only [numbered, List.length_map, List.length_mapIdx]
          exact decide_eq_true (by omega)
        refine t_sret (t_methP (t_eV rfl ⟨rfl, ?_⟩))
        refine t_cons (t_eA (t_cons (t_e2 (t_eV rfl (t_eV rfl ⟨.w (.lst ((numbered (newRules L rs)).map fun r => ruleW r.1 r.2)), ?_, ?_⟩)))))
        · show (if fits _ = true then some (R.w (.lst (_ ++ _))) else none) = _
          rw [if_pos hf, e2]
          rfl
        · refine t_nil ⟨.w (rulesW (numbered (newRules L rs))), rfl, t_nil ⟨rfl, ?_⟩⟩
          refine t_with_rules hr hg (new_rule hl) hc hj (fun h6 => ?_) (fun h6 => ?_)
          · exact ⟨ys, _, _, rfl, rfl, h (by simpa [numbered] using h6)⟩
          · exact ⟨ys, _, rfl, hx (by simpa [numbered] using h6)⟩
end
end Iv.T
end
section
set_option Elab.async false
set_option linter.all false
set_option maxRecDepth 100000
set_option maxHeartbeats 4000000
namespace Iv.T
open PySem PySem.Spec PyProof.Rows L2
/-! ### mended -/
theorem turns_good (rs : List RuleN) : ∀ k, ∀ m ∈ turns k rs, good m = true := by
  induction rs with
  | nil => intro k m hm; cases hm
  | cons r t ih =>
    intro k m hm
    rcases List.mem_append.mp hm with z | z
    · obtain ⟨a, _, rfl⟩ := List.mem_map.mp z
      rfl
    · exact ih _ m z
theorem known_good (rs : List RuleN) : ∀ m ∈ known rs, good m = true := fun m hm => by
  rcases List.mem_append.mp hm with z | z
  · obtain ⟨a, _, rfl⟩ := List.mem_map.mp z
    rfl
  · exact turns_good rs 0 m z
theorem dPut_len (D : Turned) (k : Fin 4) (a : Fin 3) : (dPut D k a).length ≤ D.length + 1 := by
  unfold dPut
  split <;> simp
theorem get_D (D : Turned) (k : Fin 4) (a : Fin 3) : ((findD (dW D) (.int (k.val : Nat))).map R.w).getD (.w (.str (ansAt a))) = .w (.str (ansAt ((dFind D k).getD a))) := by
  rw [dW_find]
  cases dFind D k <;> rfl
section
variable {E : Exc → Sto → Prop} {ns : List Int} {ys : List W} {rest : Sto} {Q : R → Sto → Prop}
theorem t_mended {roles : List Str} {gs : List (Str × List W)} {rs : List RuleN} {c j : Str} {L : List Mend} {r1 : R} (hr : roles ∈ rolesL) (hg : GsOk roles gs) (hl : ∀ r ∈ numbered rs, Rule r.1 r.2) (hc : c ∈ (["keep", "take"] : List Str)) (hj : j ∈ (["greater", "less"] : List Str)) (h4 : rs.length ≤ 4) (hn : L.length ≤ 1000) (h1 : r1 = .w (.tup (L.map toW)) ∨ r1 = .w (.lst (L.map toW)))
    (h : ∀ D, runM (known rs) L L.length = some D → (newRules L rs).length ≤ 6 → Q (.w (bookW roles (givenL roles gs) (numbered (newRules L rs)) c j)) (.lst ys :: rest)) (hx : ∀ D, runM (known rs) L L.length = some D → 6 < (newRules L rs).length → E ⟨"InvalidRule", [("index", .int 6)]⟩ (.lst ys :: rest))
    (hm : ∀ i D, i < L.length → runM (known rs) L i = some D → runM (known rs) L (i + 1) = none → E ⟨"UnknownMend", [("index", .int (i : Nat))]⟩ (.lst ys :: rest)) : Go E (callP f_mended [.w (bookW roles gs (numbered rs) c j), r1]) (.lst ys :: rest) Q := by
  have hp : ([.w (bookW roles gs (numbered rs) c j), r1] : List R).all pureR = true := by rcases h1 with rfl | rfl <;> rfl
  refine t_call hp (t_runB ?_)
  unfold g_mended
  refine t_seq (t_sset (t_callP (t_cons (t_eV rfl (t_nil ⟨rfl, ?_⟩)))))
  refine t_mends_of h4 ?_
  refine t_seq (t_sset (t_dicC ?_))
  refine t_seq (t_sfor (t_itE (xs := L.map toW) (t_eV rfl ⟨h1, fun it ov => ⟨_, ov, fun i ρ st => ∃ D x y, runM (known rs) L i = some D ∧ D.length ≤ i ∧ ρ = [some (.w (bookW roles gs (numbered rs) c j)), some r1, some (.w (.lst ((known rs).map toW))), some (.loc 1), x, y] ∧ st = [.lst ys, .dic false (dW D)], ⟨[], none, none, rfl, Nat.le_refl _, rfl, rfl⟩, fun i x ρ st ex hI => ?_, fun ρ st hI => ?_⟩⟩)))
  · obtain ⟨D, x0, y0, hD, hDl, rfl, rfl⟩ := hI
    rw [List.getElem?_mapIdx, List.getElem?_map] at ex
    obtain ⟨x1, ex1, rfl⟩ := Option.map_eq_some_iff.mp ex
    obtain ⟨m, em, rfl⟩ := Option.map_eq_some_iff.mp ex1
    have hi : i < L.length := (List.getElem?_eq_some_iff.mp em).1
    have hs := runM_succ (K := known rs) em
    rw [hD] at hs
    refine ⟨_, rfl, ?_⟩
    refine t_seq (t_sif (t_or (t_not (t_tV (t_callP (t_cons (t_eV rfl (t_cons (t_eV rfl (t_nil ⟨rfl, ?_⟩))))))))))
    refine t_is_mend (known_good rs) m ?_
    refine ⟨_, rfl, ?_⟩
    have raise : runM (known rs) L (i + 1) = none → E ⟨"UnknownMend", [("index", .int (i : Nat))]⟩ (.lst ys :: rest) := hm i D hi hD
    by_cases hk : m ∈ known rs
    · rw [decide_eq_true hk]
      refine br_f rfl ?_
      match m, hk with
      | .bar w, hk =>
        have hs' : runM (known rs) L (i + 1) = some D := by
          rw [hs]
          show stepM _ _ _ = _
          unfold stepM
          rw [if_pos hk]
        repeat (first
            | refine t_seq ?_ | refine t_sset ?_ | refine t_sret ?_ | refine t_sexpr ?_ | refine t_snil ?_ | refine t_sif ?_ | refine t_asg ?_ | refine t_msub ?_
            | refine t_eV rfl ?_ | refine t_eC ?_ | refine t_e2 ?_ | refine t_e1 ?_ | refine t_eA ?_ | refine t_nil ?_ | refine t_cons ?_ | refine t_tup ?_ | refine t_lst ?_ | refine t_lstC ?_ | refine t_par ?_
            | refine t_tV ?_ | refine t_not ?_ | refine t_and ?_ | refine t_or ?_ | refine t_if ?_ | refine t_eand ?_ | refine t_eor ?_ | refine t_enot ?_ | refine t_eM ?_ | refine t_chain ?_ | refine t_ono ?_ | refine t_osome ?_ | refine t_sl ?_ | refine t_rcd ?_ | refine t_dicC ?_ | refine t_fld ?_ | refine t_yes ?_ | refine t_mscons ?_ | refine t_msnil ?_ | refine t_raise ?_ | refine t_par3 ?_ | refine t_unp ?_
            | refine t_callP ⟨rfl, ?_⟩ | refine t_callP ?_ | ((fail_if_success with_reducible refine goChk ?_); refine ⟨rfl, ?_⟩) | ((fail_if_success with_reducible refine goChk ?_); refine br_t rfl ?_) | ((fail_if_success with_reducible refine goChk ?_); refine br_f rfl ?_)
            | ((fail_if_success with_reducible refine goChk ?_); refine ⟨_, rfl, ?_⟩))
        exact ⟨D, _, _, hs', by omega, rfl, rfl⟩
      | .turn k a, hk =>
        refine t_and (t_tV (t_e2 (t_e2 (t_eV rfl (t_eC ⟨.w (.str "turn"), rfl, t_eC ⟨.w (.bl true), rfl, _, rfl, ?_⟩⟩)))))
        refine br_t rfl ?_
        refine t_tV (t_e2 (t_eM (t_eV rfl ⟨rfl, t_cons (t_e2 (t_eV rfl (t_eC ⟨.w (.int (k.val : Nat)), rfl, t_cons (t_e2 (t_eV rfl (t_eC ⟨.w (.str (ansAt a)), rfl, t_nil ⟨.w (.str (ansAt ((dFind D k).getD a))), [.lst ys, .dic false (dW D)], ?_, ?_⟩⟩)))⟩)))⟩)))
        · show some ((((findD (dW D) (.int (k.val : Nat))).map R.w).getD _), _) = _
          rw [get_D]
        · refine t_e2 (t_eV rfl (t_eC ⟨.w (.str (ansAt a)), rfl, .w (.bl (decide ((dFind D k).getD a ≠ a))), ?_, _, rfl, fun hb => ?_, fun hb => ?_⟩))
          · show some (R.w (.bl (!decide (ansAt ((dFind D k).getD a) = ansAt a)))) = _
            rw [ans_ne]
          · have hs' : runM (known rs) L (i + 1) = none := by
              rw [hs]
              show stepM _ _ _ = _
              unfold stepM
              rw [if_pos hk]
              exact if_neg (of_decide_eq_true hb)
            refine t_raise (t_cons (t_eV rfl (t_nil ⟨_, rfl, rfl, ?_⟩)))
            exact ⟨ys, _, rfl, raise hs'⟩
          · have e : (dFind D k).getD a = a := Classical.byContradiction fun z => of_decide_eq_false hb z
            have hs' : runM (known rs) L (i + 1) = some (dPut D k a) := by
              rw [hs]
              show stepM _ _ _ = _
              unfold stepM
              rw [if_pos hk]
              exact if_pos e
            refine t_snil ?_
            refine t_sif (t_tV (t_e2 (t_e2 (t_eV rfl (t_eC ⟨.w (.str "turn"), rfl, t_eC ⟨.w (.bl true), rfl, _, rfl, br_t rfl ?_⟩⟩)))))
            refine t_asg (t_e2 (t_eV rfl (t_eC ⟨.w (.str (ansAt a)), rfl, t_msub (t_eV rfl (t_e2 (t_eV rfl (t_eC ⟨.w (.int (k.val : Nat)), rfl, [.lst ys, .dic false (dW (dPut D k a))], ?_, ?_⟩))))⟩)))
            · have hf : (flatK (.int (k.val : Nat)) && fits ((dW D).length + 1)) = true := by
                unfold fits dW
                rw [List.length_map]
                exact Bool.and_eq_true_iff.mpr ⟨rfl, decide_eq_true (by omega)⟩
              show (if (flatK (.int (k.val : Nat)) && fits ((dW D).length + 1)) = true then some [Cell.lst ys, Cell.dic false (putD (dW D) (.int (k.val : Nat)) (.str (ansAt a)))] else none) = _
              rw [if_pos hf, dW_put]
            · have := dPut_len D k a
              exact ⟨_, _, _, hs', by omega, rfl, rfl⟩
      | .bad b, hk => cases known_good rs _ hk
    · have hs' : runM (known rs) L (i + 1) = none := by
        rw [hs]
        show stepM _ _ _ = _
        unfold stepM
        rw [if_neg hk]
      rw [decide_eq_false hk]
      refine br_t rfl (br_t rfl ?_)
      refine t_raise (t_cons (t_eV rfl (t_nil ⟨_, rfl, rfl, ?_⟩)))
      exact ⟨ys, _, rfl, raise hs'⟩
  · obtain ⟨D, x0, y0, hD, hDl, rfl, rfl⟩ := hI
    have hD' : runM (known rs) L L.length = some D := by simpa using hD
    have hgood : ∀ m ∈ L, good m = true := fun m hm' => known_good rs m ((runM_of hD').1 m (by rw [List.take_length]; exact hm'))
    refine t_sret (t_callP (t_cons (t_eV rfl (t_cons (t_eA (t_cons (t_eV rfl (t_nil ⟨.w (.lst (L.map toW)), ?_, t_nil ⟨rfl, ?_⟩⟩))))))))
    · rcases h1 with rfl | rfl <;> rfl
    · refine t_made hr hg hl hc hj h4 hgood hn (fun h6 => ?_) (fun h6 => ?_)
      · exact ⟨ys, _, _, rfl, rfl, h D hD' h6⟩
      · exact ⟨ys, _, rfl, hx D hD' h6⟩
end
end Iv.T
end
section
set_option Elab.async false
set_option linter.all false
set_option maxRecDepth 100000
set_option maxHeartbeats 4000000
namespace Iv.T
open PySem PySem.Spec PyProof.Rows L2
/-! ### told -/
section
variable {E : Exc → Sto → Prop} {ns : List Int} {ys : List W} {rest : Sto} {Q : R → Sto → Prop}
theorem t_try {cs : List Str} {b : Iv.Env → SM} {l : List Cz} {ρ : Iv.Env} {st : Sto} {QS : Fl × Iv.Env → Sto → Prop} (h : Go E (b ρ) st fun p st' => match p.1 with | .ex x => Go E (runCz cs l x p.2) st' QS | _ => QS p st') : Go E (sTry cs b l ρ) st QS :=
  t_bnd (h.imp fun p s1 q => by
    obtain ⟨f, ρ1⟩ := p
    cases f <;> exact q)
theorem t_told {roles : List Str} {gs : List (Str × List W)} {rs : List RuleN} {c j : Str} {L : List Mend} {r1 : R} (hr : roles ∈ rolesL) (hg : GsOk roles gs) (hl : ∀ r ∈ numbered rs, Rule r.1 r.2) (hc : c ∈ (["keep", "take"] : List Str)) (hj : j ∈ (["greater", "less"] : List Str)) (h4 : rs.length ≤ 4) (hn : L.length ≤ 1000) (h1 : r1 = .w (.tup (L.map toW)) ∨ r1 = .w (.lst (L.map toW)))
    (h : ∀ v, Ans (known rs) L rs v → Q (.w v) (.lst ys :: rest)) : Go E (callP f__law_told [.w (bookW roles gs (numbered rs) c j), r1]) (.lst ys :: rest) Q := by
  have hp : ([.w (bookW roles gs (numbered rs) c j), r1] : List R).all pureR = true := by rcases h1 with rfl | rfl <;> rfl
  refine t_call hp (t_runB ?_)
  unfold g__law_told
  refine t_seq (t_try (t_sset (t_prop (t_callP (t_cons (t_eV rfl (t_cons (t_eV rfl (t_nil ⟨rfl, ?_⟩)))))))))
  refine t_mended hr hg hl hc hj h4 hn h1 (fun D hD h6 => ?_) (fun D hD h6 => ?_) (fun i D hi hD hD' => ?_)
  · refine ⟨rfl, .of (a := .w (rulesW (numbered (newRules L rs)))) (st' := [.lst ys]) rfl ?_⟩
    refine t_sret (t_eV rfl ⟨ys, [], _, rfl, rfl, h _ (.inr ⟨D, hD, ?_⟩)⟩)
    unfold finW
    rw [if_neg (by omega)]
  · refine .of (a := (.nx, [some (.w (bookW roles gs (numbered rs) c j)), some r1, none, some (.w sixW)])) (st' := [.lst ys]) rfl ?_
    refine t_sret (t_eV rfl ⟨ys, [], _, rfl, rfl, h _ (.inr ⟨D, hD, ?_⟩)⟩)
    unfold finW
    rw [if_pos h6]
  · refine .of (a := (.nx, [some (.w (bookW roles gs (numbered rs) c j)), some r1, none, some (.w (.lst [.str "mend", .int (i : Nat)]))])) (st' := [.lst ys]) rfl ?_
    exact t_sret (t_eV rfl ⟨ys, [], _, rfl, rfl, h _ (.inl ⟨i, D, hi, hD, hD', rfl⟩)⟩)
end
end Iv.T
end
section
set_option Elab.async false
set_option linter.all false
set_option maxRecDepth 100000
set_option maxHeartbeats 4000000
namespace Iv.T
open PySem PySem.Spec PyProof.Rows L2
/-! ### due -/
def shW (S : List (Fin 8)) : List W := S.map fun w => .str (wordAt w)
theorem word_inj : ∀ a b : Fin 8, wordAt a = wordAt b → a = b := by decide
theorem nin_shuts (S : List (Fin 8)) (w : Fin 8) : inItems (.str (wordAt w)) (shW S) = some (decide (w ∈ S)) := by
  have h1 : (shW S).all flatW = true := by simp [shW, flatW]
  have h2 : ((shW S).any fun y => W.eqv y (.str (wordAt w))) = decide (w ∈ S) := by
    clear h1
    unfold shW
    induction S with
    | nil => rfl
    | cons x r ih =>
      rw [List.map_cons, List.any_cons, ih, show W.eqv (.str (wordAt x)) (.str (wordAt w)) = decide (wordAt x = wordAt w) from rfl]
      by_cases e : x = w
      · subst e; simp
      · have : wordAt x ≠ wordAt w := fun z => e (word_inj _ _ z)
        simp [e, Ne.symm e, this]
  unfold inItems
  rw [h1]
  simp only [flatW, Bool.and_self, if_true, h2]
theorem sorted_shuts {S : List (Fin 8)} {L : List Mend} (nd : S.Nodup) (hm : ∀ w, w ∈ S ↔ Mend.bar w ∈ L) : sortS (S.map wordAt) = (allW.filter fun w => decide (Mend.bar w ∈ L)).map wordAt := by
  symm
  refine sortS_uniq ?_ ?_
  · refine List.Perm.map _ ((List.perm_ext_iff_of_nodup ?_ nd).mpr fun w => ?_)
    · exact (show allW.Nodup by decide).sublist List.filter_sublist
    · rw [List.mem_filter, hm w]
      have : w ∈ allW := by revert w; decide
      simp [this]
  · exact (show (allW.map wordAt).Pairwise (leS · ·) by decide).sublist (List.filter_sublist.map wordAt)
theorem sorted_R {S : List (Fin 8)} {L : List Mend} (nd : S.Nodup) (hm : ∀ w, w ∈ S ↔ Mend.bar w ∈ L) (hl : S.length < 64) {st : Sto} {n : Nat} (e : st[n]? = some (.lst (shW S))) : sortedR st [.loc n] = some (.w (.lst (shW (allW.filter fun w => decide (Mend.bar w ∈ L))))) := by
  have h1 : listOf st (.loc n) = some (shW S) := by unfold listOf; simp only [e]
  have h2 : mapO strW (shW S) = some (S.map wordAt) := by
    unfold shW
    clear nd hm hl e h1
    induction S with
    | nil => rfl
    | cons x r ih => simp only [List.map_cons, mapO, ih]; rfl
  unfold sortedR
  simp only [h1, h2]
  rw [if_pos (by simpa using hl), sorted_shuts nd hm]
  simp [shW]
theorem repr_mend (m : Mend) (st : Sto) : reprR st [.w (toW m)] = some (.w (.str (textOf m))) := by
  show ((shownW (toW m)).map fun z => R.w (.str z)) = _
  rw [shown_mend]
  rfl
theorem gt_len (n : Nat) : decide ((6 : Int) < (n : Nat)) = decide (6 < n) := by
  by_cases h : 6 < n
  · rw [decide_eq_true h, decide_eq_true (by omega)]
  · rw [decide_eq_false h, decide_eq_false (by omega)]
section
variable {E : Exc → Sto → Prop} {ns : List Int} {ys : List W} {rest : Sto} {Q : R → Sto → Prop}
theorem t_due {roles : List Str} {gs : List (Str × List W)} {rs : List RuleN} {c j : Str} {L : List Mend} (h4 : rs.length ≤ 4) (hn : L.length ≤ 40)
    (h : ∀ v, Ans (known rs) L rs v → Q (.w v) (.lst ys :: rest)) : Go E (callP f__law_due [.w (drawnW roles gs (numbered rs) c j), .w (.lst (L.map toW))]) (.lst ys :: rest) Q := by
  refine t_call rfl (t_runB ?_)
  unfold g__law_due
  refine t_seq (t_par3 (t_cons (t_callP (t_cons (t_eV rfl (t_nil ⟨rfl, ?_⟩))))))
  refine t_all_mends h4 ?_
  refine t_cons (t_dicC (t_cons (t_lstC (t_nil ⟨[], rfl, rfl, t_nil ⟨_, _, _, rfl, ?_⟩⟩))))
  refine t_seq (t_sfor (t_itRx (t_eA (t_cons (t_eV rfl (t_nil ⟨.w (.int ((L.map toW).length : Nat)), rfl, _, rfl, by simp; omega, fun it ov => ⟨_, ov, fun i ρ st => ∃ D S x y, runM (known rs) L i = some D ∧ D.length ≤ i ∧ (S : List (Fin 8)).Nodup ∧ (∀ w, w ∈ S ↔ Mend.bar w ∈ L.take i) ∧ S.length ≤ i ∧ ρ = [some (.w (drawnW roles gs (numbered rs) c j)), some (.w (.lst (L.map toW))), x, none, some (.w (.lst ((known rs).map toW))), some (.loc 1), some (.loc 2), y, none, none] ∧ st = [.lst ys, .dic false (dW D), .lst (shW S)], ⟨[], [], none, none, rfl, Nat.le_refl _, List.nodup_nil, by simp, Nat.le_refl _, rfl, rfl⟩, fun i x ρ st ex hI => ?_, fun ρ st hI => ?_⟩⟩))))))
  · obtain ⟨D, S, x0, y0, hD, hDl, nd, hS, hSl, rfl, rfl⟩ := hI
    have hi : i < L.length := by have := (List.getElem?_eq_some_iff.mp ex).1; simpa using this
    obtain rfl : x = .int (i : Nat) := by simpa [hi] using ex.symm
    obtain ⟨m, em⟩ : ∃ m, L[i]? = some m := ⟨L[i], List.getElem?_eq_getElem hi⟩
    have hs := runM_succ (K := known rs) em
    rw [hD] at hs
    have tk : L.take (i + 1) = L.take i ++ [m] := by rw [List.take_succ, em]; rfl
    have raise : runM (known rs) L (i + 1) = none → Q (.w (.lst [.str "mend", .int (i : Nat)])) (.lst ys :: rest) := fun hn => h _ (.inl ⟨i, D, hi, hD, hn, rfl⟩)
    refine ⟨_, rfl, ?_⟩
    refine t_seq (t_sset (t_e2 (t_eV rfl (t_eV rfl ⟨.w (toW m), ?_, ?_⟩))))
    · show (atI (L.map toW) (i : Nat)).map R.w = _
      rw [atI_get (x := toW m) (by simp [em])]
      rfl
    refine t_seq (t_sif (t_tV (t_e2 (t_eA (t_cons (t_eV rfl (t_nil ⟨_, repr_mend m _, ?_⟩)))))))
    refine t_eLc (t_lcPure (t_itA_lst (xs := (known rs).map toW) (t_eV rfl ⟨rfl, fun it ov => ⟨_, ov, ?_, fun x => (shownW x).map W.str, fun x hx => ?_, ?_⟩⟩)))
    · rw [List.length_map]
      unfold known
      rw [List.length_append, turns_len]
      have : bars.length = 8 := rfl
      omega
    · obtain ⟨m', _, rfl⟩ := List.mem_map.mp hx
      refine ⟨_, rfl, t_yes (br_t rfl (t_eA (t_cons (t_eV rfl (t_nil ⟨_, repr_mend m' _, rfl, _, rfl, ?_⟩)))))⟩
      show (shownW (toW m')).map W.str = _
      rw [shown_mend]
      rfl
    · have e1 : ((known rs).map toW).filterMap (fun x => (shownW x).map W.str) = (known rs).map fun m => W.str (textOf m) := by
        rw [List.filterMap_map]
        have : ((fun x => (shownW x).map W.str) ∘ toW) = fun m => some (W.str (textOf m)) := funext fun m => by
          show (shownW (toW m)).map W.str = _
          rw [shown_mend]
          rfl
        rw [this]
        simp
      rw [e1]
      refine ⟨_, in_texts m _, _, rfl, ?_⟩
      by_cases hk : m ∈ known rs
      · rw [decide_eq_true hk]
        refine br_f rfl (t_snil ?_)
        match m, hk with
        | .bar w, hk =>
          have hs' : runM (known rs) L (i + 1) = some D := by
            rw [hs]
            show stepM _ _ _ = _
            unfold stepM
            rw [if_pos hk]
          refine t_sif (t_tV (t_e2 (t_e2 (t_eV rfl (t_eC ⟨.w (.str "bar"), rfl, t_eC ⟨.w (.bl false), rfl, _, rfl, br_f rfl ?_⟩⟩)))))
          refine t_sif (t_tV (t_e2 (t_e2 (t_eV rfl (t_eC ⟨.w (.str (wordAt w)), rfl, t_eV rfl ⟨.w (.bl (!decide (w ∈ S))), ?_, _, rfl, fun hb => ?_, fun hb => ?_⟩⟩)))))
          · show (inItems (.str (wordAt w)) (shW S)).map (fun b => R.w (.bl (!b))) = _
            rw [nin_shuts]
            rfl
          · have hw : w ∉ S := by simpa using hb
            refine t_sexpr (t_eM (t_eV rfl ⟨rfl, t_cons (t_e2 (t_eV rfl (t_eC ⟨.w (.str (wordAt w)), rfl, t_nil ⟨.w .non, [.lst ys, .dic false (dW D), .lst (shW (S ++ [w]))], ?_, ?_⟩⟩)))⟩))
            · have hf : fits ((shW S).length + 1) = true := by unfold fits shW; rw [List.length_map]; exact decide_eq_true (by omega)
              show (if fits ((shW S).length + 1) = true then some (R.w .non, [Cell.lst ys, Cell.dic false (dW D), Cell.lst (shW S ++ [.str (wordAt w)])]) else none) = _
              rw [if_pos hf]
              simp [shW]
            · refine ⟨D, S ++ [w], _, _, hs', by omega, ?_, fun w' => ?_, by simp; omega, rfl, rfl⟩
              · refine List.nodup_append.mpr ⟨nd, by simp, fun a ha b hb => ?_⟩
                rw [List.mem_singleton.mp hb]
                exact fun e => hw (e ▸ ha)
              · rw [tk]
                simp [hS w']
          · have hw : w ∈ S := by simpa using hb
            refine t_snil ⟨D, S, _, _, hs', by omega, nd, fun w' => ?_, by omega, rfl, rfl⟩
            rw [tk, hS w']
            simp only [List.mem_append, List.mem_singleton, Mend.bar.injEq]
            refine ⟨.inl, fun z => z.elim id fun e => ?_⟩
            rw [e]
            exact (hS w).mp hw
        | .turn k a, hk =>
          refine t_sif (t_tV (t_e2 (t_e2 (t_eV rfl (t_eC ⟨.w (.str "turn"), rfl, t_eC ⟨.w (.bl true), rfl, _, rfl, br_t rfl ?_⟩⟩)))))
          refine t_seq (t_sif (t_tV (t_e2 (t_eM (t_eV rfl ⟨rfl, t_cons (t_e2 (t_eV rfl (t_eC ⟨.w (.int (k.val : Nat)), rfl, t_cons (t_e2 (t_eV rfl (t_eC ⟨.w (.str (ansAt a)), rfl, t_nil ⟨.w (.str (ansAt ((dFind D k).getD a))), [.lst ys, .dic false (dW D), .lst (shW S)], ?_, ?_⟩⟩)))⟩)))⟩)))))
          · show some ((((findD (dW D) (.int (k.val : Nat))).map R.w).getD _), _) = _
            rw [get_D]
          · refine t_e2 (t_eV rfl (t_eC ⟨.w (.str (ansAt a)), rfl, .w (.bl (decide ((dFind D k).getD a ≠ a))), ?_, _, rfl, fun hb => ?_, fun hb => ?_⟩))
            · show some (R.w (.bl (!decide (ansAt ((dFind D k).getD a) = ansAt a)))) = _
              rw [ans_ne]
            · have hs' : runM (known rs) L (i + 1) = none := by
                rw [hs]
                show stepM _ _ _ = _
                unfold stepM
                rw [if_pos hk]
                exact if_neg (of_decide_eq_true hb)
              refine t_sret (t_lst (t_cons (t_eC (t_cons (t_eV rfl (t_nil ⟨_, rfl, rfl, ?_⟩))))))
              exact ⟨ys, _, _, rfl, rfl, raise hs'⟩
            · have e : (dFind D k).getD a = a := Classical.byContradiction fun z => of_decide_eq_false hb z
              have hs' : runM (known rs) L (i + 1) = some (dPut D k a) := by
                rw [hs]
                show stepM _ _ _ = _
                unfold stepM
                rw [if_pos hk]
                exact if_pos e
              refine t_snil ?_
              refine t_asg (t_e2 (t_eV rfl (t_eC ⟨.w (.str (ansAt a)), rfl, t_msub (t_eV rfl (t_e2 (t_eV rfl (t_eC ⟨.w (.int (k.val : Nat)), rfl, [.lst ys, .dic false (dW (dPut D k a)), .lst (shW S)], ?_, ?_⟩))))⟩)))
              · have hf : (flatK (.int (k.val : Nat)) && fits ((dW D).length + 1)) = true := by
                  unfold fits dW
                  rw [List.length_map]
                  exact Bool.and_eq_true_iff.mpr ⟨rfl, decide_eq_true (by omega)⟩
                show (if (flatK (.int (k.val : Nat)) && fits ((dW D).length + 1)) = true then some [Cell.lst ys, Cell.dic false (putD (dW D) (.int (k.val : Nat)) (.str (ansAt a))), Cell.lst (shW S)] else none) = _
                rw [if_pos hf, dW_put]
              · have := dPut_len D k a
                refine ⟨_, S, _, _, hs', by omega, nd, fun w' => ?_, by omega, rfl, rfl⟩
                rw [tk, hS w']
                simp
        | .bad b, hk => cases known_good rs _ hk
      · have hs' : runM (known rs) L (i + 1) = none := by
          rw [hs]
          show stepM _ _ _ = _
          unfold stepM
          rw [if_neg hk]
        rw [decide_eq_false hk]
        refine br_t rfl ?_
        refine t_sret (t_lst (t_cons (t_eC (t_cons (t_eV rfl (t_nil ⟨_, rfl, rfl, ?_⟩))))))
        exact ⟨ys, _, _, rfl, rfl, raise hs'⟩
  · obtain ⟨D, S, x0, y0, hD, hDl, nd, hS, hSl, rfl, rfl⟩ := hI
    have el : ((List.range (L.map toW).length).map fun i => W.int (i : Nat)).length = L.length := by simp
    rw [el] at hD hDl hS hSl
    rw [List.take_length] at hS
    have eD : D = dOf L := by have := (runM_of hD).2; rwa [List.take_length] at this
    subst eD
    refine t_seq (t_sset (t_eLcC (t_lcPure (t_itA_lst (xs := shW (allW.filter fun w => decide (Mend.bar w ∈ L))) (t_eA (t_cons (t_eV rfl (t_nil ⟨_, sorted_R nd hS (by omega) rfl, rfl, fun it ov => ⟨_, ov, ?_, fun x => some (.tup [.tup [.tup [x, .bl true]], .str "refuse"]), fun x hx => ?_, ?_⟩⟩))))))))
    · have := List.length_filter_le (fun w => decide (Mend.bar w ∈ L)) allW
      have h8 : allW.length = 8 := rfl
      unfold shW
      rw [List.length_map]
      omega
    · refine ⟨_, rfl, t_yes (br_t rfl ?_)⟩
      repeat (first
          | refine t_seq ?_ | refine t_sset ?_ | refine t_sret ?_ | refine t_sexpr ?_ | refine t_snil ?_ | refine t_sif ?_ | refine t_asg ?_ | refine t_msub ?_
          | refine t_eV rfl ?_ | refine t_eC ?_ | refine t_e2 ?_ | refine t_e1 ?_ | refine t_eA ?_ | refine t_nil ?_ | refine t_cons ?_ | refine t_tup ?_ | refine t_lst ?_ | refine t_lstC ?_ | refine t_par ?_
          | refine t_tV ?_ | refine t_not ?_ | refine t_and ?_ | refine t_or ?_ | refine t_if ?_ | refine t_eand ?_ | refine t_eor ?_ | refine t_enot ?_ | refine t_eM ?_ | refine t_chain ?_ | refine t_ono ?_ | refine t_osome ?_ | refine t_sl ?_ | refine t_rcd ?_ | refine t_dicC ?_ | refine t_fld ?_ | refine t_yes ?_ | refine t_mscons ?_ | refine t_msnil ?_ | refine t_raise ?_ | refine t_par3 ?_ | refine t_unp ?_
          | refine t_callP ⟨rfl, ?_⟩ | refine t_callP ?_ | ((fail_if_success with_reducible refine goChk ?_); refine ⟨rfl, ?_⟩) | ((fail_if_success with_reducible refine goChk ?_); refine br_t rfl ?_) | ((fail_if_success with_reducible refine goChk ?_); refine br_f rfl ?_)
          | ((fail_if_success with_reducible refine goChk ?_); refine ⟨_, rfl, ?_⟩))
      rfl
    · have eA : (shW (allW.filter fun w => decide (Mend.bar w ∈ L))).filterMap (fun x => some (.tup [.tup [.tup [x, .bl true]], .str "refuse"])) = ((allW.filter fun w => decide (Mend.bar w ∈ L)).map barRule).map fun r => ruleW r.1 (ansAt r.2) := by
        unfold shW
        rw [List.filterMap_eq_map', List.map_map, List.map_map]
        rfl
      rw [eA]
      generalize eB : (allW.filter fun w => decide (Mend.bar w ∈ L)).map barRule = B
      have eN : newRules L rs = B ++ rs.mapIdx (turned (dOf L)) := by rw [← eB]; rfl
      have hB : B.length ≤ 8 := by
        rw [← eB, List.length_map]
        exact Nat.le_trans (List.length_filter_le _ _) (Nat.le_of_eq rfl)
      refine t_seq (t_sfor (t_itRx (t_eA (t_cons (t_e2 (t_eV rfl (t_eC ⟨.w (rulesW (numbered rs)), rfl, t_nil ⟨.w (.int (((numbered rs).map fun r => ruleW r.1 r.2).length : Nat)), rfl, _, rfl, by simp [numbered]; omega, fun it ov => ⟨_, ov, fun i ρ st => ∃ x y, ρ = [some (.w (drawnW roles gs (numbered rs) c j)), some (.w (.lst (L.map toW))), x, some (.loc 3), some (.w (.lst ((known rs).map toW))), some (.loc 1), some (.loc 2), y, none, none] ∧ st = [.lst ys, .dic false (dW (dOf L)), .lst (shW S), .lst ((B ++ (rs.mapIdx (turned (dOf L))).take i).map fun r => ruleW r.1 (ansAt r.2))], ⟨_, _, rfl, by simp⟩, fun i x ρ st ex hI => ?_, fun ρ st hI => ?_⟩⟩⟩)))))))
      · obtain ⟨x1, y1, rfl, rfl⟩ := hI
        have hi : i < rs.length := by have := (List.getElem?_eq_some_iff.mp ex).1; simpa [numbered] using this
        obtain rfl : x = .int (i : Nat) := by
          rw [List.getElem?_map, List.getElem?_range (by simpa [numbered] using hi)] at ex
          exact (Option.some.inj ex).symm
        obtain ⟨r, er⟩ : ∃ r, rs[i]? = some r := ⟨rs[i], List.getElem?_eq_getElem hi⟩
        have tk : (rs.mapIdx (turned (dOf L))).take (i + 1) = (rs.mapIdx (turned (dOf L))).take i ++ [turned (dOf L) i r] := by
          rw [List.take_succ, List.getElem?_mapIdx, er]
          rfl
        refine ⟨_, rfl, ?_⟩
        refine t_sexpr (t_eM (t_eV rfl ⟨rfl, t_cons (t_tup (t_cons (t_e2 (t_e2 (t_e2 (t_eV rfl (t_eC ⟨.w (rulesW (numbered rs)), rfl, t_eV rfl ⟨_, rule_at er _, t_eC ⟨.w (.tup (r.1.map testW)), rfl, ?_⟩⟩⟩)))))))⟩))
        refine t_cons (t_eM (t_eV rfl ⟨rfl, t_cons (t_eV rfl (t_cons (t_e2 (t_e2 (t_e2 (t_eV rfl (t_eC ⟨.w (rulesW (numbered rs)), rfl, t_eV rfl ⟨_, rule_at er _, t_eC ⟨.w (.str (ansAt r.2)), rfl, ?_⟩⟩⟩)))))))⟩))
        refine t_nil ⟨.w (.str (ansAt (turned (dOf L) i r).2)), [.lst ys, .dic false (dW (dOf L)), .lst (shW S), .lst ((B ++ (rs.mapIdx (turned (dOf L))).take i).map fun r => ruleW r.1 (ansAt r.2))], ?_, ?_⟩
        · show some ((((findD (dW (dOf L)) (.int (i : Nat))).map R.w).getD _), _) = _
          rw [show ((i : Nat) : Int) = ((Fin.ofNat 4 i).val : Nat) by rw [ofNat4 (by omega)], get_D]
          rfl
        · refine t_nil ⟨_, rfl, rfl, t_nil ⟨.w .non, [.lst ys, .dic false (dW (dOf L)), .lst (shW S), .lst ((B ++ (rs.mapIdx (turned (dOf L))).take (i + 1)).map fun r => ruleW r.1 (ansAt r.2))], ?_, ?_⟩⟩
          · have hf : fits (((B ++ (rs.mapIdx (turned (dOf L))).take i).map fun r => ruleW r.1 (ansAt r.2)).length + 1) = true := by
              unfold fits
              simp only [List.length_map, List.length_append, List.length_take, List.length_mapIdx]
              exact decide_eq_true (by omega)
            show (if fits (((B ++ (rs.mapIdx (turned (dOf L))).take i).map fun r => ruleW r.1 (ansAt r.2)).length + 1) = true then some (R.w .non, [Cell.lst ys, Cell.dic false (dW (dOf L)), Cell.lst (shW S), Cell.lst ((B ++ (rs.mapIdx (turned (dOf L))).take i).map (fun r => ruleW r.1 (ansAt r.2)) ++ [.tup [.tup (r.1.map testW), .str (ansAt (turned (dOf L) i r).2)]])]) else none) = _
            rw [if_pos hf, tk, ← List.append_assoc, List.map_append (l₂ := [_])]
            rfl
          · exact ⟨_, _, rfl, rfl⟩
      · obtain ⟨x1, y1, rfl, rfl⟩ := hI
        have eT : (rs.mapIdx (turned (dOf L))).take ((List.range ((numbered rs).map fun r => ruleW r.1 r.2).length).map fun i => W.int (i : Nat)).length = rs.mapIdx (turned (dOf L)) := List.take_of_length_le (by simp [numbered])
        rw [eT, ← eN]
        refine t_sret (t_if (t_tV (t_e2 (t_eA (t_cons (t_eV rfl (t_nil ⟨.w (.int (((newRules L rs).map fun r => ruleW r.1 (ansAt r.2)).length : Nat)), rfl, t_eC ⟨.w (.bl (decide (6 < (newRules L rs).length))), ?_, _, rfl, fun hb => ?_, fun hb => ?_⟩⟩)))))))
        · show some (R.w (.bl (decide ((6 : Int) < (((newRules L rs).map fun r => ruleW r.1 (ansAt r.2)).length : Nat))))) = _
          rw [gt_len, List.length_map]
        · refine t_lst (t_cons (t_eC (t_cons (t_eC (t_nil ⟨_, rfl, rfl, ys, _, _, rfl, rfl, h _ (.inr ⟨_, hD, ?_⟩)⟩)))))
          unfold finW
          rw [if_pos (of_decide_eq_true hb)]
          rfl
        · refine t_eA (t_cons (t_eV rfl (t_nil ⟨.w (.tup ((newRules L rs).map fun r => ruleW r.1 (ansAt r.2))), rfl, ys, _, _, rfl, rfl, h _ (.inr ⟨_, hD, ?_⟩)⟩)))
          unfold finW
          rw [if_neg (of_decide_eq_false hb)]
          unfold rulesW
          rw [numbered_map]
end
end Iv.T
end
section
set_option Elab.async false
set_option linter.all false
set_option maxRecDepth 100000
set_option maxHeartbeats 4000000
namespace Iv.T
open PySem PySem.Spec PyProof.Rows L2
/-! ### the law -/
theorem eqv_refl : ∀ (n : Nat) (x : W), x.pl n = true → W.eqv x x = true
  | 0, x, h => by cases x <;> first | exact beq_self_eq_true _ | rfl | cases h
  | n + 1, x, h => by
    have hs : ∀ xs : List W, xs.all (W.pl n) = true → W.eqvs xs xs = true := fun xs => by
      induction xs with
      | nil => intro _; rfl
      | cons y r ih =>
        intro h
        obtain ⟨h1, h2⟩ := Bool.and_eq_true_iff.mp (show (W.pl n y && r.all (W.pl n)) = true from h)
        show (W.eqv y y && W.eqvs r r) = true
        rw [eqv_refl n y h1, ih h2]
        rfl
    cases x <;> first | exact beq_self_eq_true _ | rfl | cases h | exact hs _ h
theorem ne_self {v : W} (h : v.pl 16 = true) (st : Sto) : neR st (.w v) (.w v) = some (.w (.bl false)) := by
  have e : eqW v v = some true := by
    unfold eqW
    split
    · simp
    · rw [h, eqv_refl 16 v h]
      rfl
  show ((eqW v v).map fun k => R.w (.bl (!k))) = _
  rw [e]
  rfl
theorem pl_lst {n : Nat} {xs : List W} (h : ∀ x ∈ xs, x.pl n = true) : (W.lst xs).pl (n + 1) = true := List.all_eq_true.mpr h
theorem pl_tup {n : Nat} {xs : List W} (h : ∀ x ∈ xs, x.pl n = true) : (W.tup xs).pl (n + 1) = true := List.all_eq_true.mpr h
theorem pl_mends (K : List Mend) : (W.lst (K.map toW)).pl 16 = true := pl_lst fun x hx => by
  obtain ⟨m, _, rfl⟩ := List.mem_map.mp hx
  exact pl_up _ _ (pl_up _ _ (pl_up _ _ (pl_mend m)))
theorem words_ok : ∀ w ∈ wordsL, PyData.strOk w = true := by decide +kernel
theorem ans_ok : ∀ w ∈ answersL, PyData.strOk w = true := by decide +kernel
theorem mend_ok (i : Int) : (W.lst [.str "mend", .int i]).pl 16 = true := by kernel_rfl
theorem six_ok : sixW.pl 16 = true := by kernel_rfl
theorem pl_rules {rules : List (List (Str × Bool) × Str)} (h : ∀ r ∈ rules, Rule r.1 r.2) : (rulesW rules).pl 16 = true := pl_tup fun x hx => by
  obtain ⟨r, hr, rfl⟩ := List.mem_map.mp hx
  have k := h r hr
  refine pl_tup (n := 14) fun y hy => ?_
  simp only [List.mem_cons, List.not_mem_nil, or_false] at hy
  rcases hy with rfl | rfl
  · refine pl_tup (n := 13) fun z hz => ?_
    obtain ⟨t, ht, rfl⟩ := List.mem_map.mp hz
    refine pl_tup (n := 12) fun u hu => ?_
    simp only [List.mem_cons, List.not_mem_nil, or_false] at hu
    rcases hu with rfl | rfl
    · exact words_ok _ (k.sub.subset (List.mem_map.mpr ⟨t, ht, rfl⟩))
    · rfl
  · exact ans_ok _ k.ans
theorem Ans.pl {K L : List Mend} {rs : List RuleN} {v : W} (hl : ∀ r ∈ numbered rs, Rule r.1 r.2) (h : Ans K L rs v) : v.pl 16 = true := by
  rcases h with ⟨i, D, _, _, _, rfl⟩ | ⟨D, _, rfl⟩
  · exact mend_ok _
  · unfold finW
    split
    · exact six_ok
    · exact pl_rules (new_rule hl)
theorem cut_map {α β : Type} (f : α → β) (xs : List α) (lo hi : Option Int) : cutL (xs.map f) lo hi = (cutL xs lo hi).map f := by
  unfold cutL
  rw [List.length_map, List.map_take, List.map_drop]
theorem cut_len {α : Type} (xs : List α) (lo hi : Option Int) : (cutL xs lo hi).length ≤ xs.length := by
  unfold cutL
  rw [List.length_take, List.length_drop]
  omega
def badL (a : Fin 3) : List Mend := [.bad 0, .bad 1, .bad 2, .bad 3, .bad 4, .bad 5, .bad 6, .bad 7, .bad 8, .bad 9, .turn 0 a]
theorem lst_mend {K : List Mend} {v : Int} (h0 : 0 ≤ v) (h1 : v < K.length) (st : Sto) : ∃ m, ixR2 st (.w (.lst (K.map toW))) (.w (.int v)) = some (.w (toW m)) := by
  obtain ⟨x, hx, e⟩ := lst_at (xs := K.map toW) h0 (by simpa using h1) st
  obtain ⟨m, _, rfl⟩ := List.mem_map.mp hx
  exact ⟨m, e⟩
section
variable {ns : List Int}
abbrev Env12 (ns : List Int) (dr bk al : R) (a2 a4 a7 a8 a9 a10 a11 : Option R) : Iv.Env := [some (.w (.scr ns)), some (.loc 0), a2, some dr, a4, some bk, some al, a7, a8, a9, a10, a11]
abbrev g_bad : Iv.Env → SM := (sSeq (sSet 8 (eLst (aCons (eC .non) (aCons (eTup (aCons (eC (.str "bar")) (aCons (eC (.str "lost")) aNil))) (aCons (eTup (aCons (eC (.str "turn")) (aCons (eC (.int 9)) (aCons (eC (.str "full")) aNil)))) (aCons (eC (.str "bar")) (aCons (eTup (aCons (eC (.str "turn")) (aCons (eC (.bl true)) (aCons (eC (.str "full")) aNil)))) (aCons (eTup aNil) (aCons (eLst (aCons (eC (.str "bar")) (aCons (eC (.str "in")) aNil))) aNil))))))))) (sSeq (sSet 9 (eIf (tV (e2 gtR (eLenO "Book" f_Book__len (eV 5)) (eC (.int 0)))) (e2 ixR2 (e2 ixR2 (e2 ixR2 (eV 3) (eC (.str "rules"))) (eC (.int 0))) (eC (.int 1))) (eC (.str "full")))) (sSeq (sSet 8 (e2 addR (eV 8) (eLst (aCons (eTup (aCons (eC (.str "turn")) (aCons (eC (.int 0)) (aCons (eC (.str "lost")) aNil)))) (aCons (eTup (aCons (eC (.str "bar")) aNil)) (aCons (eTup (aCons (eC (.str "turn")) (aCons (eC (.int 0)) aNil))) (aCons (eTup (aCons (eC (.str "turn")) (aCons (eC (.int 0)) (aCons (eV 9) aNil)))) aNil))))))) (sSeq (sSet 10 (eCallP 2 f__law_taken (aCons (eV 1) (aCons (e2 addR (eA lenR2 (aCons (eV 7) aNil)) (eC (.int 1))) aNil)))) (sSet 7 (e2 addR (e2 addR (eSl (eV 7) oNo (oSome (eV 10))) (eLst (aCons (e2 ixR2 (eV 8) (eCallP 2 f__law_taken (aCons (eV 1) (aCons (eA lenR2 (aCons (eV 8) aNil)) aNil)))) aNil))) (eSl (eV 7) (oSome (eV 10)) oNo)))))))
theorem first_ok {roles : List Str} {gs gs' : List (Str × List W)} {rs : List RuleN} {c j : Str} {xs : List W} {ρ : Iv.Env} (h3 : ρ[3]? = some (some (.w (drawnW roles gs (numbered rs) c j)))) (h5 : ρ[5]? = some (some (.w (bookW roles gs' (numbered rs) c j)))) (h4 : rs.length ≤ 4) : ∃ a : Fin 3, ∀ (E : Exc → Sto → Prop) (Q : R → Sto → Prop), Q (.w (.str (ansAt a))) [.lst xs] → Go E (eIf (tV (e2 gtR (eLenO "Book" f_Book__len (eV 5)) (eC (.int 0)))) (e2 ixR2 (e2 ixR2 (e2 ixR2 (eV 3) (eC (.str "rules"))) (eC (.int 0))) (eC (.int 1))) (eC (.str "full")) ρ) [.lst xs] Q := by
  have len : ∀ (E : Exc → Sto → Prop) (Q : R → Sto → Prop), Q (.w (.int ((rs.length : Nat) : Int))) [.lst xs] → Go E (eLenO "Book" f_Book__len (eV 5) ρ) [.lst xs] Q := fun E Q q => by
    refine t_lenO (t_eV h5 ⟨rfl, .of (a := .w (.int ((((numbered rs).map fun r => ruleW r.1 r.2).length : Nat) : Int))) (st' := [.lst xs]) rfl ⟨_, rfl, ?_, ?_⟩⟩)
    · simp [numbered]; omega
    · rw [show ((numbered rs).map fun r => ruleW r.1 r.2).length = rs.length by simp [numbered]]
      exact q
  match rs, h3, len with
  | [], h3, len => exact ⟨1, fun E Q q => t_if (t_tV (t_e2 (len _ _ (t_eC ⟨.w (.bl false), rfl, _, rfl, br_f rfl (t_eC q)⟩))))⟩
  | r :: t, h3, len =>
    refine ⟨r.2, fun E Q q => t_if (t_tV (t_e2 (len _ _ (t_eC ⟨.w (.bl true), ?_, _, rfl, br_t rfl ?_⟩))))⟩
    · show some (R.w (.bl (decide ((0 : Int) < ((r :: t).length : Nat))))) = _
      rw [decide_eq_true (by simp)]
    · exact t_e2 (t_e2 (t_e2 (t_eV h3 (t_eC ⟨.w (rulesW (numbered (r :: t))), rfl, t_eC ⟨.w (ruleW r.1 (ansAt r.2)), rule_at (i := 0) rfl _, t_eC ⟨_, rfl, q⟩⟩⟩))))
theorem bad_ok {roles : List Str} {gs gs' : List (Str × List W)} {rs : List RuleN} {c j : Str} {M : List Mend} {xs : List W} {al dr bk : R} {a2 a4 a8 a9 a10 a11 : Option R} (hdr : dr = .w (drawnW roles gs (numbered rs) c j)) (hbk : bk = .w (bookW roles gs' (numbered rs) c j)) (hx : Row ns xs) (hM : M.length ≤ 4) (h4 : rs.length ≤ 4) {QS : Fl × Iv.Env → Sto → Prop}
    (h : ∀ M' ys b8 b9 b10, Row ns ys → (M' : List Mend).length ≤ 9 → QS (.nx, Env12 ns dr bk al a2 a4 (some (.w (.lst (M'.map toW)))) b8 b9 b10 a11) [.lst ys]) :
    Tot (g_bad (Env12 ns dr bk al a2 a4 (some (.w (.lst (M.map toW)))) a8 a9 a10 a11)) [.lst xs] QS := by
  unfold g_bad
  refine t_seq (t_sset (.of (a := .w (.lst (([.bad 0, .bad 1, .bad 2, .bad 3, .bad 4, .bad 5, .bad 6] : List Mend).map toW))) (st' := [.lst xs]) rfl ?_))
  obtain ⟨a, first⟩ := first_ok (xs := xs) (ρ := Env12 ns dr bk al a2 a4 (some (.w (.lst (M.map toW)))) (some (.w (.lst (([.bad 0, .bad 1, .bad 2, .bad 3, .bad 4, .bad 5, .bad 6] : List Mend).map toW)))) a9 a10 a11) (gs' := gs') (by rw [hdr]; rfl) (by rw [hbk]; rfl) h4
  refine t_seq (t_sset (first _ _ ?_))
  refine t_seq (t_sset (t_e2 (t_eV rfl (.of (a := .w (.lst (([.bad 7, .bad 8, .bad 9, .turn 0 a] : List Mend).map toW))) (st' := [.lst xs]) rfl ⟨.w (.lst ((badL a).map toW)), rfl, ?_⟩))))
  refine t_seq (t_sset (t_callP (t_cons (t_eV rfl (t_cons (t_e2 (t_eA (t_cons (t_eV rfl (t_nil ⟨.w (.int ((M.map toW).length : Nat)), rfl, t_eC ⟨.w (.int (((M.map toW).length : Nat) + 1)), rfl, t_nil ⟨rfl, ?_⟩⟩⟩))))))))))
  have hlen : (M.map toW).length = M.length := List.length_map _
  refine t_taken hx (by omega) (by omega) fun v ys h0 h1 hy => ?_
  refine t_sset (t_e2 (t_e2 (t_sl (t_eV rfl (t_ono (t_osome (t_eV rfl ⟨v, rfl, .w (.lst (cutL (M.map toW) none (some v))), rfl, ?_⟩)))))))
  refine t_lst (t_cons (t_e2 (t_eV rfl (t_callP (t_cons (t_eV rfl (t_cons (t_eA (t_cons (t_eV rfl (t_nil ⟨.w (.int 11), rfl, t_nil ⟨rfl, ?_⟩⟩)))))))))))
  refine t_taken hy (by omega) (by omega) fun u zs g0 g1 hz => ?_
  obtain ⟨b, eb⟩ := lst_mend (K := badL a) g0 g1 [.lst zs]
  refine ⟨_, eb, t_nil ⟨[toW b], rfl, rfl, .w (.lst (cutL (M.map toW) none (some v) ++ [toW b])), ?_, ?_⟩⟩
  · have hf : fits ((cutL (M.map toW) none (some v)).length + [toW b].length) = true := by
      have := cut_len (M.map toW) none (some v)
      unfold fits
      exact decide_eq_true (by simp at *; omega)
    show (if fits ((cutL (M.map toW) none (some v)).length + [toW b].length) = true then _ else none) = _
    rw [if_pos hf]
  · refine t_sl (t_eV rfl (t_osome (t_eV rfl ⟨v, rfl, t_ono ⟨.w (.lst (cutL (M.map toW) (some v) none)), rfl, .w (.lst ((cutL M none (some v) ++ [b] ++ cutL M (some v) none).map toW)), ?_, ?_⟩⟩)))
    · have hf : fits ((cutL (M.map toW) none (some v) ++ [toW b]).length + (cutL (M.map toW) (some v) none).length) = true := by
        have := cut_len (M.map toW) none (some v)
        have := cut_len (M.map toW) (some v) none
        unfold fits
        exact decide_eq_true (by simp at *; omega)
      show (if fits ((cutL (M.map toW) none (some v) ++ [toW b]).length + (cutL (M.map toW) (some v) none).length) = true then some (R.w (.lst ((cutL (M.map toW) none (some v) ++ [toW b]) ++ cutL (M.map toW) (some v) none))) else none) = _
      rw [if_pos hf, cut_map, cut_map]
      simp
    · refine h _ zs _ _ _ hz ?_
      have := cut_len M none (some v)
      have := cut_len M (some v) none
      simp only [List.length_append, List.length_singleton]
      omega
end
end Iv.T
end
section
set_option Elab.async false
set_option linter.all false
set_option maxRecDepth 100000
set_option maxHeartbeats 4000000
namespace Iv.T
open PySem PySem.Spec PyProof.Rows L2
/-! ### the law's rounds -/
section
variable {ns : List Int}
abbrev g_round : Iv.Env → SM := (sSeq (sSet 7 (eLc [11] (itR (eCallP 2 f__law_taken (aCons (eV 1) (aCons (eC (.int 5)) aNil)))) (gN 11) tYes (e2 ixR2 (eV 6) (eCallP 2 f__law_taken (aCons (eV 1) (aCons (eA lenR2 (aCons (eV 6) aNil)) aNil)))))) (sSeq (sIf (tV (e2 eqR (eCallP 2 f__law_taken (aCons (eV 1) (aCons (eC (.int 2)) aNil))) (eC (.int 0)))) g_bad sNil) (sIf (tV (e2 neR (eCallP 2 f__law_told (aCons (eV 5) (aCons (eIf (tV (e2 eqR (eV 4) (eC (.int 0)))) (eA tupleR (aCons (eV 7) aNil)) (eV 7)) aNil))) (eCallP 2 f__law_due (aCons (eV 3) (aCons (eV 7) aNil))))) (sRet (eC (.bl false))) sNil)))
theorem t_told' {E : Exc → Sto → Prop} {Q : R → Sto → Prop} {ys : List W} {rest : Sto} {roles : List Str} {gs : List (Str × List W)} {rs : List RuleN} {c j : Str} {L : List Mend} {r1 bk : R} (d : DrawnOk roles gs (numbered rs) c j) (hbk : bk = .w (bookW roles (givenL roles gs) (numbered rs) c j)) (hn : L.length ≤ 1000) (h1 : r1 = .w (.tup (L.map toW)) ∨ r1 = .w (.lst (L.map toW))) (h : ∀ v, Ans (known rs) L rs v → Q (.w v) (.lst ys :: rest)) : Go E (callP f__law_told [bk, r1]) (.lst ys :: rest) Q := by
  subst hbk
  have h4 : rs.length ≤ 4 := by have := d.rlen; simpa [numbered] using this
  exact t_told d.hr (given_ok d.hr (gs_ok d)) d.rl d.hc d.hj h4 hn h1 h
theorem t_due' {E : Exc → Sto → Prop} {Q : R → Sto → Prop} {ys : List W} {rest : Sto} {roles : List Str} {gs : List (Str × List W)} {rs : List RuleN} {c j : Str} {L : List Mend} {dr : R} (d : DrawnOk roles gs (numbered rs) c j) (hdr : dr = .w (drawnW roles gs (numbered rs) c j)) (hn : L.length ≤ 40) (h : ∀ v, Ans (known rs) L rs v → Q (.w v) (.lst ys :: rest)) : Go E (callP f__law_due [dr, .w (.lst (L.map toW))]) (.lst ys :: rest) Q := by
  subst hdr
  have h4 : rs.length ≤ 4 := by have := d.rlen; simpa [numbered] using this
  exact t_due h4 hn h
theorem end_ok {roles : List Str} {gs : List (Str × List W)} {rs : List RuleN} {c j : Str} {M : List Mend} {xs : List W} {al dr bk : R} {t : Int} {a2 a8 a9 a10 a11 : Option R} (d : DrawnOk roles gs (numbered rs) c j) (hdr : dr = .w (drawnW roles gs (numbered rs) c j)) (hbk : bk = .w (bookW roles (givenL roles gs) (numbered rs) c j)) (hM : M.length ≤ 40) {QS : Fl × Iv.Env → Sto → Prop}
    (h : QS (.nx, Env12 ns dr bk al a2 (some (.w (.int t))) (some (.w (.lst (M.map toW)))) a8 a9 a10 a11) [.lst xs]) :
    Tot (sIf (tV (e2 neR (eCallP 2 f__law_told (aCons (eV 5) (aCons (eIf (tV (e2 eqR (eV 4) (eC (.int 0)))) (eA tupleR (aCons (eV 7) aNil)) (eV 7)) aNil))) (eCallP 2 f__law_due (aCons (eV 3) (aCons (eV 7) aNil))))) (sRet (eC (.bl false))) sNil (Env12 ns dr bk al a2 (some (.w (.int t))) (some (.w (.lst (M.map toW)))) a8 a9 a10 a11)) [.lst xs] QS := by
  refine t_sif (t_tV (t_e2 (t_callP (t_cons (t_eV rfl (t_cons (t_if (t_tV (t_e2 (t_eV rfl (t_eC ⟨_, rfl, _, rfl, fun hb => ?_, fun hb => ?_⟩)))))))))))
  · refine t_eA (t_cons (t_eV rfl (t_nil ⟨.w (.tup (M.map toW)), rfl, t_nil ⟨rfl, ?_⟩⟩)))
    refine t_told' d hbk (by omega) (.inl rfl) fun v hv => ?_
    refine t_callP (t_cons (t_eV rfl (t_cons (t_eV rfl (t_nil ⟨rfl, ?_⟩)))))
    refine t_due' d hdr hM fun v' hv' => ?_
    have e := hv.uniq hv'
    subst e
    exact ⟨_, ne_self (hv.pl d.rl) _, _, rfl, br_f rfl (t_snil h)⟩
  · refine t_eV rfl (t_nil ⟨rfl, ?_⟩)
    refine t_told' d hbk (by omega) (.inr rfl) fun v hv => ?_
    refine t_callP (t_cons (t_eV rfl (t_cons (t_eV rfl (t_nil ⟨rfl, ?_⟩)))))
    refine t_due' d hdr hM fun v' hv' => ?_
    have e := hv.uniq hv'
    subst e
    exact ⟨_, ne_self (hv.pl d.rl) _, _, rfl, br_f rfl (t_snil h)⟩
theorem known_len (rs : List RuleN) : (known rs).length = 8 + 2 * rs.length := by
  unfold known
  rw [List.length_append, turns_len]
  rfl
theorem round_ok {roles : List Str} {gs : List (Str × List W)} {rs : List RuleN} {c j : Str} {xs : List W} {dr bk : R} {t : Int} {a2 a7 a8 a9 a10 a11 : Option R} (d : DrawnOk roles gs (numbered rs) c j) (hdr : dr = .w (drawnW roles gs (numbered rs) c j)) (hbk : bk = .w (bookW roles (givenL roles gs) (numbered rs) c j)) (hx : Row ns xs) {QS : Fl × Iv.Env → Sto → Prop}
    (h : ∀ ys b7 b8 b9 b10, Row ns ys → QS (.nx, Env12 ns dr bk (.w (.lst ((known rs).map toW))) a2 (some (.w (.int t))) b7 b8 b9 b10 a11) [.lst ys]) :
    Tot (g_round (Env12 ns dr bk (.w (.lst ((known rs).map toW))) a2 (some (.w (.int t))) a7 a8 a9 a10 a11)) [.lst xs] QS := by
  have h4 : rs.length ≤ 4 := by have := d.rlen; simpa [numbered] using this
  have hk := known_len rs
  unfold g_round
  refine t_seq (t_sset (t_eLc (t_lcRun (t_itRx (t_callP (t_cons (t_eV rfl (t_cons (t_eC (t_nil ⟨rfl, ?_⟩))))))))))
  refine t_taken hx (by omega) (by omega) fun v ys h0 h1 hy => ?_
  refine ⟨v.toNat, by rw [Int.toNat_of_nonneg h0], by omega, fun it ov => ⟨_, ov, by simp; omega, fun i acc st => ∃ M zs, acc = (M : List Mend).map toW ∧ M.length = i ∧ Row ns zs ∧ st = [.lst zs], ⟨[], ys, rfl, rfl, hy, rfl⟩, ?_, fun i x acc st ex hI => ?_, fun acc st hI => ?_⟩⟩
  · rintro i acc st ⟨M, zs, rfl, rfl, _⟩
    simp
  · obtain ⟨M, zs, rfl, hM, hz, rfl⟩ := hI
    refine ⟨_, rfl, t_yes (br_t rfl ?_)⟩
    refine t_e2 (t_eV rfl (t_callP (t_cons (t_eV rfl (t_cons (t_eA (t_cons (t_eV rfl (t_nil ⟨.w (.int (((known rs).map toW).length : Nat)), rfl, t_nil ⟨rfl, ?_⟩⟩)))))))))
    have hl : ((known rs).map toW).length = 8 + 2 * rs.length := by rw [List.length_map, hk]
    rw [hl]
    refine t_taken hz (by omega) (by omega) fun u us g0 g1 hu => ?_
    obtain ⟨m, em⟩ := lst_mend (K := known rs) g0 (by rw [hk]; omega) [.lst us]
    exact ⟨_, em, _, rfl, M ++ [m], us, by simp, by simp [hM], hu, rfl⟩
  · obtain ⟨M, zs, rfl, hM, hz, rfl⟩ := hI
    have hM4 : M.length ≤ 4 := by simp at hM; omega
    refine t_seq (t_sif (t_tV (t_e2 (t_callP (t_cons (t_eV rfl (t_cons (t_eC (t_nil ⟨rfl, ?_⟩)))))))))
    refine t_taken hz (by omega) (by omega) fun u us g0 g1 hu => ?_
    refine t_eC ⟨_, rfl, _, rfl, fun hb => ?_, fun hb => ?_⟩
    · refine bad_ok (gs' := givenL roles gs) hdr hbk hu hM4 h4 fun M' ps b8 b9 b10 hp hM' => ?_
      exact end_ok d hdr hbk (by omega) (h _ _ _ _ _ hp)
    · refine t_snil ?_
      exact end_ok d hdr hbk (by omega) (h _ _ _ _ _ hu)
end
end Iv.T
end
section
set_option Elab.async false
set_option linter.all false
set_option maxRecDepth 100000
set_option maxHeartbeats 4000000
namespace Iv.T
open PySem PySem.Spec PyProof.Rows L2
theorem t_mends_of' {E : Exc → Sto → Prop} {Q : R → Sto → Prop} {ys : List W} {rest : Sto} {roles : List Str} {gs : List (Str × List W)} {rs : List RuleN} {c j : Str} {bk : R} (hbk : bk = .w (bookW roles gs (numbered rs) c j)) (hl : rs.length ≤ 4) (h : Q (.w (.lst ((known rs).map toW))) (.lst ys :: rest)) : Go E (callP f_mends_of [bk]) (.lst ys :: rest) Q := by
  subst hbk
  exact t_mends_of hl h
theorem t_all_mends' {E : Exc → Sto → Prop} {Q : R → Sto → Prop} {ys : List W} {rest : Sto} {roles : List Str} {gs : List (Str × List W)} {rs : List RuleN} {c j : Str} {dr : R} (hdr : dr = .w (drawnW roles gs (numbered rs) c j)) (hl : rs.length ≤ 4) (h : Q (.w (.lst ((known rs).map toW))) (.lst ys :: rest)) : Go E (callP f__law_all_mends [dr]) (.lst ys :: rest) Q := by
  subst hdr
  exact t_all_mends hl h
theorem t_book' {E : Exc → Sto → Prop} {Q : R → Sto → Prop} {ys : List W} {rest : Sto} {roles : List Str} {gs : List (Str × List W)} {rules : List (List (Str × Bool) × Str)} {c j : Str} {dr : R} (d : DrawnOk roles gs rules c j) (hdr : dr = .w (drawnW roles gs rules c j)) (h : ∀ b, b = bookW roles (givenL roles gs) rules c j → Q (.w b) (.lst ys :: rest)) : Go E (callP f__law_book [dr]) (.lst ys :: rest) Q := by
  subst hdr
  exact t_book d (h _ rfl)
theorem t_drawn' {E : Exc → Sto → Prop} {ns : List Int} {xs : List W} {rest : Sto} {Q : R → Sto → Prop} (hx : Row ns xs) (h : ∀ roles gs rs c j ys dr, DrawnOk roles gs (numbered rs) c j → Row ns ys → dr = R.w (drawnW roles gs (numbered rs) c j) → Q dr (.lst ys :: rest)) : Go E (callP f__law_drawn [.loc 0]) (.lst xs :: rest) Q :=
  t_drawn hx fun roles gs rules c j ys d hy => by
    obtain ⟨rs, rfl⟩ := numbered_ex d.rl
    exact h roles gs rs c j ys _ d hy rfl
theorem law_go (ns : List Int) : Tot (f_law [.w (.scr ns)]) [] fun r _ => r = .w (.bl true) := by
  refine t_runB ?_
  unfold g_law
  refine t_seq (t_sset (.of (a := .loc 0) (st' := [.lst [.scr ns, .int 0, .int 0, .int 0]]) rfl ?_))
  refine t_seq (t_sfor (t_itRx (t_eC ⟨3, rfl, by omega, fun it ov => ⟨_, ov, fun i ρ st => ∃ xs a2 a3 a4 a5 a6 a7 a8 a9 a10 a11, Row ns xs ∧ ρ = [some (.w (.scr ns)), some (.loc 0), a2, a3, a4, a5, a6, a7, a8, a9, a10, a11] ∧ st = [.lst xs], ⟨_, none, none, none, none, none, none, none, none, none, none, ⟨0, 0, 0, rfl, Int.le_refl _⟩, rfl, rfl⟩, fun i x ρ st ex hI => ?_, fun ρ st hI => ?_⟩⟩)))
  · obtain ⟨xs, a2, a3, a4, a5, a6, a7, a8, a9, a10, a11, hx, rfl, rfl⟩ := hI
    refine ⟨_, rfl, t_seq (t_sset (t_callP (t_cons (t_eV rfl (t_nil ⟨rfl, ?_⟩)))))⟩
    refine t_drawn' hx fun roles gs rs c j ys dr d hy hdr => ?_
    have h4 : rs.length ≤ 4 := by have := d.rlen; simpa [numbered] using this
    refine t_seq (t_unp (t_tup (t_cons (t_callP (t_cons (t_eV rfl (t_nil ⟨rfl, ?_⟩)))))))
    refine t_book' d hdr fun b hb => ?_
    refine t_cons (t_callP (t_cons (t_eV rfl (t_nil ⟨rfl, ?_⟩))))
    refine t_all_mends' hdr h4 ?_
    refine t_nil ⟨[b, .lst ((known rs).map toW)], rfl, rfl, _, rfl, ?_⟩
    have hbk : R.w b = .w (bookW roles (givenL roles gs) (numbered rs) c j) := by rw [hb]
    refine t_seq (t_sif (t_tV (t_e2 (t_callP (t_cons (t_eV rfl (t_nil ⟨rfl, ?_⟩)))))))
    refine t_mends_of' hbk h4 ?_
    refine t_eV rfl ⟨_, ne_self (pl_mends _) _, _, rfl, br_f rfl (t_snil ?_)⟩
    refine t_sfor (t_itRx (t_eC ⟨5, rfl, by omega, fun it ov => ⟨_, ov, fun i ρ st => ∃ xs a4 a7 a8 a9 a10 a11, Row ns xs ∧ ρ = Env12 ns dr (.w b) (.w (.lst ((known rs).map toW))) (some (.w x)) a4 a7 a8 a9 a10 a11 ∧ st = [.lst xs], ⟨ys, _, _, _, _, _, _, hy, rfl, rfl⟩, fun k z ρ st ez hI => ?_, fun ρ st hI => ?_⟩⟩))
    · obtain ⟨zs, b4, b7, b8, b9, b10, b11, hz, rfl, rfl⟩ := hI
      obtain ⟨n, rfl⟩ : ∃ n : Int, z = .int n := by
        rw [List.getElem?_map] at ez
        obtain ⟨n, _, rfl⟩ := Option.map_eq_some_iff.mp ez
        exact ⟨_, rfl⟩
      refine ⟨_, rfl, ?_⟩
      refine round_ok (t := n) (a2 := some (.w x)) (a7 := b7) (a8 := b8) (a9 := b9) (a10 := b10) (a11 := b11) d hdr hbk hz fun us c7 c8 c9 c10 hu => ?_
      exact ⟨us, _, _, _, _, _, _, hu, rfl, rfl⟩
    · obtain ⟨zs, b4, b7, b8, b9, b10, b11, hz, rfl, rfl⟩ := hI
      exact ⟨zs, _, _, _, _, _, _, _, _, _, _, hz, rfl, rfl⟩
  · obtain ⟨xs, a2, a3, a4, a5, a6, a7, a8, a9, a10, a11, hx, rfl, rfl⟩ := hI
    exact t_sret (t_eC rfl)
theorem law_true (ns : List Int) : ns.length ≤ 63 → (∀ z ∈ ns, Builtin.Int.intBits z ≤ 1048576) → ∃ st, f_law [.w (.scr ns)] [] = .ok (.w (.bl true)) st := fun _ _ => by
  obtain ⟨r, st, e, rfl⟩ := (law_go ns).ex
  exact ⟨st, e⟩
end Iv.T
end
section
set_option Elab.async false
set_option linter.all false
set_option maxRecDepth 100000
set_option maxHeartbeats 0
namespace Iv.T
open PySem PySem.Spec PyProof.Rows L2
/-! ### the head -/
abbrev exB (K : PySem.W.Frag) : Bool := (factsL K).all id
abbrev Rw : PySem.W.OpenRow := PySem.W.OpenLaw.row PySem.Challenge.rw_invitedin_k10_mends_made
abbrev hk : PySem.W.Hook := hookI 5 exB fn
def ob (s : PySem.W.SharedT) : AlI := obsI 5 exB fn (HandSHeadRun.getT s)
theorem ob_eq (s : PySem.W.SharedT) : ob s = hk.obs s.abs := obsI_eq (HandSHeadRun.getT_eq s)
def loose : List PySem.Str := (["_wall", "InviteError", "InvalidRoles", "InvalidGrants", "InvalidRule", "InvalidBook", "UnknownMend", "LETTERS", "MOST_ROLES", "MOST_KINDS", "MOST_RULES", "MOST_USES", "MOST_DAYS", "WORDS", "ANSWERS", "CLOSES", "JOINS", "is_name", "is_integer", "is_one_of", "are_roles", "is_kind", "are_kinds", "check_grants", "is_test", "is_rule", "check_rules", "Book", "mends_of", "is_mend"] : List PySem.Str) ++ (["made", "mended", "_law_taken", "_law_kind", "_law_rule", "_law_drawn", "_law_world", "_law_book", "_law_all_mends", "_law_due", "_law_told"] : List PySem.Str)
theorem run (w : World) : HandSHeadRun.RunEq Rw (PySem.W.view Rw.prog [45]) hk ob 20000 loose w := by
  intro os
  kernel_rfl
theorem end_ (hlaw : ∀ ns : List Int, ns.length ≤ 63 → (∀ z ∈ ns, Builtin.Int.intBits z ≤ 1048576) → ∃ st, f_law [.w (.scr ns)] [] = .ok (.w (.bl true)) st) {q : Program} {lo : List Str} {XP : (Str → Option Value) → Heap → Prop} {d : DefRec} (hd : d.name = ("law" : Str)) (hdf : d.params.defaults = []) :
    PySem.W.WalkO q lo XP (hk.says) (PySem.W.OpenLaw.row PySem.Challenge.rw_invitedin_k10_mends_made).toRowW d [] (fun f vs => PySem.call f vs) :=
  walk_G (l := PySem.Challenge.rw_invitedin_k10_mends_made) (n := 63) (k := 11) rfl (by decide) hdf ⟨rfl, by decide, by decide⟩ (fun w mg fa h Y G hm => by
    obtain ⟨K, KX, c⟩ := Y
    have fs := fs_of KX G c.more
    have e : fa = He.ga K "law" := by
      rw [hd, fs.g_law] at hm
      exact (Value.ref.inj (Option.some.inj hm)).symm
    subst e
    exact ⟨K, KX, nl_of c.more, fun base _ _ => all_ok fs c⟩) hlaw
end Iv.T
end
open PySem PySem.W PySem.Calls PyProof.Rows
set_option maxRecDepth 100000 in
set_option maxHeartbeats 0 in
theorem PySem.Challenge.cw_invitedin_k10_mends_made_holds : PySem.Challenge.rw_invitedin_k10_mends_made.Holds := by
  w_on; o_law
  refine HandSHeadRun.head_any (r := OpenLaw.row PySem.Challenge.rw_invitedin_k10_mends_made) (q := view (OpenLaw.row PySem.Challenge.rw_invitedin_k10_mends_made).prog [45]) (H := Iv.T.hk) (ob := Iv.T.ob) (M := 20000) (loose := Iv.T.loose) (d := HandSHeadRun.topDef (OpenLaw.row PySem.Challenge.rw_invitedin_k10_mends_made).prog 45) (kwd := []) Iv.T.ob_eq
    (by kernel_rfl) (fun s => by kernel_rfl) Iv.T.run (by kernel_rfl) (by kernel_rfl) (by kernel_rfl) (by rfl) (by first | assumption | decide +kernel) (by decide +kernel) ⟨rfl, rfl, rfl, rfl, rfl, by decide +kernel⟩ ?hw ?hc
  case hw => w_witness2
  case hc => exact Iv.T.end_ Iv.T.law_true (by kernel_rfl) (by kernel_rfl)
