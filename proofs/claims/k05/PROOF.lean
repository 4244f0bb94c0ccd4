import PyProof.Rows.All
import Wide.All
import OpenK.AllK
import Wide.FinOn
import HandS.ForMost
import HandS.HeadHook2
import HandS.Wide
import HandS.Text
import HandS.IsInst
import PyProof.StrBlock2
import PyProof.ReprReads
import HandS.StrSplit
import HandS.More
import HandS.SortInts
import HandS.FStr
import HandS.Conv
import HandS.Defaults
import HandS.Dict
import HandS.TupAny
import HandS.RaiseMore
import HandS.Exc
import HandS.WordsExc
import HandS.Flow
import HandS.Comp
import HandS.ExcInit
import HandS.ExcField
import HandS.ExcIs
import HandS.ClsMeth
import HandS.Property
import HandS.Iter
import HandS.HeadWalk
import HandS.Style
import KE.KExcIs
import PyProof.FString3
import PyProof.Rows.StrIntSpec
import HandS.HeadNt
import HandS.HeadEnd
import HandS.EndBits
import HandS.EndTab
import KE.KStateDown
import HandS.Head0
import HandS.Head1
import HandS.Head2
import PyProof.ReprLen
import PyProof.Rows.StrJoinMade
import PyProof.Rows.StrJoinRep
import PyProof.Rows.StrFin3
import KE.IntTextLaws
import PyProof.P3Eq
import PySem.Challenge.RW_neverunsaid_k05_frames_and_cuts
set_option Elab.async false
set_option linter.all false
set_option maxRecDepth 100000
set_option maxHeartbeats 4000000
/-! MBase: mirror values, cells, the relation to the abstract heap. -/
namespace Mir
open PySem L2

inductive MV where
  | non | bl (b : Bool) | int (i : Int) | str (s : Str) | tup (xs : List MV) | ref (n : Nat) | cls (x : Str) | ty (n : String)
  deriving Inhabited

inductive Cell where
  | lst (xs : List MV)
  | rdl (xs : List MV)
  | dic (kvs : List (Key × MV))
  | ins (C : Str) (fs : List (Str × MV))
  | dead

structure Exn where
  cls : Str
  fs : List (Str × MV)

abbrev Wd := List Cell
inductive Res (α : Type) where
  | ok (a : α) (w : Wd)
  | err (e : Exn) (w : Wd)
  | bad

abbrev M (α : Type) := Wd → Res α
instance : Monad M where
  pure a := fun w => .ok a w
  bind m f := fun w => match m w with
    | .ok a w' => f a w'
    | .err e w' => .err e w'
    | .bad => .bad

mutual
def RelM (ρ : List Addr) (K : PySem.W.Frag) (H : Hp) : MV → V → Prop
  | .non, v => v = .non
  | .bl b, v => v = .bl b
  | .int i, v => v = .int i
  | .str s, v => v = .str s
  | .tup xs, v => ∃ p vs, v = .ref p ∧ SqT K H p vs ∧ RelMs ρ K H xs vs
  | .ref n, v => ∃ p, v = .ref p ∧ ρ[n]? = some p
  | .cls x, v => v = .ref (He.ga K x)
  | .ty T, v => v = .ty T
def RelMs (ρ : List Addr) (K : PySem.W.Frag) (H : Hp) : List MV → List V → Prop
  | [], vs => vs = []
  | x :: xs, vs => ∃ v r, vs = v :: r ∧ RelM ρ K H x v ∧ RelMs ρ K H xs r
end

section
variable {ρ ρ' ρ'' : List Addr} {K : PySem.W.Frag} {H H' H'' : Hp}

/-- what stays: the addresses of the cells, tuples, locked things -/
structure Up (ρ : List Addr) (H : Hp) (ρ' : List Addr) (H' : Hp) : Prop where
  pre : ∀ (n : Nat) (p : Addr), ρ[n]? = some p → ρ'[n]? = some p
  tup : ∀ p xs, H p = some (.tup xs) → H' p = some (.tup xs)
  frz : ∀ p o u, H p = some (.frz o u) → H' p = some (.frz o u)
  xd : ∀ p gs, H p = some (.xd gs) → H' p = some (.xd gs)
theorem Up.refl : Up ρ H ρ H := ⟨fun _ _ h => h, fun _ _ h => h, fun _ _ _ h => h, fun _ _ h => h⟩
theorem Up.trans (a : Up ρ H ρ' H') (b : Up ρ' H' ρ'' H'') : Up ρ H ρ'' H'' :=
  ⟨fun n p h => b.pre n p (a.pre n p h), fun p xs h => b.tup p xs (a.tup p xs h), fun p o u h => b.frz p o u (a.frz p o u h), fun p gs h => b.xd p gs (a.xd p gs h)⟩
theorem Up.sqT (u : Up ρ H ρ' H') {p : Addr} {vs : List V} (h : SqT K H p vs) : SqT K H' p vs := by
  rcases h with (h | ⟨o, h⟩) | h
  · exact .inl (.inl (u.tup _ _ h))
  · exact .inl (.inr ⟨o, u.frz _ _ _ h⟩)
  · exact .inr h
mutual
theorem RelM.up (u : Up ρ H ρ' H') : ∀ {x : MV} {v : V}, RelM ρ K H x v → RelM ρ' K H' x v
  | .non, _, h => h
  | .bl _, _, h => h
  | .int _, _, h => h
  | .str _, _, h => h
  | .tup xs, _, h => by
    unfold RelM at h ⊢
    obtain ⟨p, vs, e, s, r⟩ := h
    exact ⟨p, vs, e, u.sqT s, RelMs.up u r⟩
  | .ref _, _, h => by
    unfold RelM at h ⊢
    obtain ⟨p, e, q⟩ := h
    exact ⟨p, e, u.pre _ _ q⟩
  | .cls _, _, h => h
  | .ty _, _, h => h
theorem RelMs.up (u : Up ρ H ρ' H') : ∀ {xs : List MV} {vs : List V}, RelMs ρ K H xs vs → RelMs ρ' K H' xs vs
  | [], _, h => h
  | x :: xs, _, h => by
    unfold RelMs at h ⊢
    obtain ⟨v, r, e, a, b⟩ := h
    exact ⟨v, r, e, RelM.up u a, RelMs.up u b⟩
end
theorem RelMs.length : ∀ {xs : List MV} {vs : List V}, RelMs ρ K H xs vs → xs.length = vs.length
  | [], _, h => by unfold RelMs at h; subst h; rfl
  | x :: xs, _, h => by
    unfold RelMs at h
    obtain ⟨v, r, rfl, _, b⟩ := h
    simp [RelMs.length b]
theorem RelMs.nil : RelMs ρ K H [] [] := by unfold RelMs; rfl
theorem RelMs.cons {x : MV} {xs : List MV} {v : V} {vs : List V} (a : RelM ρ K H x v) (b : RelMs ρ K H xs vs) : RelMs ρ K H (x :: xs) (v :: vs) := by
  unfold RelMs; exact ⟨v, vs, rfl, a, b⟩
theorem RelMs.append : ∀ {xs ys : List MV} {vs us : List V}, RelMs ρ K H xs vs → RelMs ρ K H ys us → RelMs ρ K H (xs ++ ys) (vs ++ us)
  | [], _, _, _, h, g => by unfold RelMs at h; subst h; exact g
  | x :: xs, _, _, _, h, g => by
    unfold RelMs at h
    obtain ⟨v, r, rfl, a, b⟩ := h
    exact .cons a (RelMs.append b g)
theorem RelMs.get : ∀ {xs : List MV} {vs : List V} {i : Nat} {x : MV}, RelMs ρ K H xs vs → xs[i]? = some x → ∃ v, vs[i]? = some v ∧ RelM ρ K H x v
  | [], _, _, _, _, e => by simp at e
  | x :: xs, _, 0, _, h, e => by
    unfold RelMs at h
    obtain ⟨v, r, rfl, a, b⟩ := h
    simp at e; subst e
    exact ⟨v, rfl, a⟩
  | x :: xs, _, i + 1, _, h, e => by
    unfold RelMs at h
    obtain ⟨v, r, rfl, a, b⟩ := h
    obtain ⟨u, e1, e2⟩ := RelMs.get (i := i) b (by simpa using e)
    exact ⟨u, by simpa using e1, e2⟩
theorem RelMs.set {y : MV} {u : V} (g : RelM ρ K H y u) : ∀ {xs : List MV} {vs : List V} (i : Nat), RelMs ρ K H xs vs → RelMs ρ K H (xs.set i y) (vs.set i u)
  | [], _, _, h => by unfold RelMs at h; subst h; exact .nil
  | x :: xs, _, 0, h => by
    unfold RelMs at h
    obtain ⟨v, r, rfl, a, b⟩ := h
    exact .cons g b
  | x :: xs, _, i + 1, h => by
    unfold RelMs at h
    obtain ⟨v, r, rfl, a, b⟩ := h
    exact .cons a (RelMs.set g i b)
theorem RelMs.take : ∀ {xs : List MV} {vs : List V} (n : Nat), RelMs ρ K H xs vs → RelMs ρ K H (xs.take n) (vs.take n)
  | _, _, 0, _ => by simp; exact .nil
  | [], _, n + 1, h => by unfold RelMs at h; subst h; exact .nil
  | x :: xs, _, n + 1, h => by
    unfold RelMs at h
    obtain ⟨v, r, rfl, a, b⟩ := h
    exact .cons a (RelMs.take n b)
theorem RelMs.drop : ∀ {xs : List MV} {vs : List V} (n : Nat), RelMs ρ K H xs vs → RelMs ρ K H (xs.drop n) (vs.drop n)
  | _, _, 0, h => h
  | [], _, n + 1, h => by unfold RelMs at h; subst h; exact .nil
  | x :: xs, _, n + 1, h => by
    unfold RelMs at h
    obtain ⟨v, r, rfl, a, b⟩ := h
    exact RelMs.drop n b
theorem RelMs.reverse : ∀ {xs : List MV} {vs : List V}, RelMs ρ K H xs vs → RelMs ρ K H xs.reverse vs.reverse
  | [], _, h => by unfold RelMs at h; subst h; exact .nil
  | x :: xs, _, h => by
    unfold RelMs at h
    obtain ⟨v, r, rfl, a, b⟩ := h
    rw [List.reverse_cons, List.reverse_cons]
    exact (RelMs.reverse b).append (.cons a .nil)
theorem RelMs.one {x : MV} {vs : List V} (h : RelMs ρ K H [x] vs) : ∃ v, vs = [v] ∧ RelM ρ K H x v := by
  unfold RelMs at h
  obtain ⟨v, r, rfl, a, b⟩ := h
  unfold RelMs at b; subst b
  exact ⟨v, rfl, a⟩
theorem RelMs.uncons {x : MV} {xs : List MV} {vs : List V} (h : RelMs ρ K H (x :: xs) vs) : ∃ v r, vs = v :: r ∧ RelM ρ K H x v ∧ RelMs ρ K H xs r := by
  unfold RelMs at h; exact h

/-- fields, by name and order -/
def RelF (ρ : List Addr) (K : PySem.W.Frag) (H : Hp) (fs : List (Str × MV)) (gs : List (Str × V)) : Prop :=
  fs.map (·.1) = gs.map (·.1) ∧ RelMs ρ K H (fs.map (·.2)) (gs.map (·.2))
def RelK (ρ : List Addr) (K : PySem.W.Frag) (H : Hp) (fs : List (Key × MV)) (gs : List (Key × V)) : Prop :=
  fs.map (·.1) = gs.map (·.1) ∧ RelMs ρ K H (fs.map (·.2)) (gs.map (·.2))

def CellRel (ρ : List Addr) (K : PySem.W.Frag) (H : Hp) (p : Addr) : Cell → Prop
  | .lst xs => ∃ vs, H p = some (.lst vs) ∧ RelMs ρ K H xs vs
  | .rdl xs => ∃ vs, ((∃ o, H p = some (.frz o (.lst vs))) ∨ ∀ H' : Hp, SqL K H' p vs) ∧ RelMs ρ K H xs vs
  | .dic kvs => ∃ gs, H p = some (.dK gs) ∧ RelK ρ K H kvs gs
  | .ins C fs => ∃ dx gs, H p = some (.ins (He.ga K C) dx gs) ∧ RelF ρ K H fs gs
  | .dead => True
def Cell.mut : Cell → Bool
  | .lst _ | .dic _ | .ins _ _ => true
  | _ => false

structure SimW (ρ : List Addr) (K : PySem.W.Frag) (W : Wd) (H : Hp) : Prop where
  len : ρ.length = W.length
  inj : ∀ (n m : Nat) (p : Addr) (c d : Cell), ρ[n]? = some p → ρ[m]? = some p → W[n]? = some c → W[m]? = some d → c.mut = true → d.mut = true → n = m
  cell : ∀ (n : Nat) (p : Addr) (c : Cell), W[n]? = some c → ρ[n]? = some p → CellRel ρ K H p c

theorem SimW.at (S : SimW ρ K W H) {n : Nat} {c : Cell} (h : W[n]? = some c) : ∃ p, ρ[n]? = some p ∧ CellRel ρ K H p c := by
  have hl : n < ρ.length := by rw [S.len]; exact (List.getElem?_eq_some_iff.mp h).1
  exact ⟨ρ[n], List.getElem?_eq_getElem hl, S.cell n _ c h (List.getElem?_eq_getElem hl)⟩

/-- an exception of the mirror's, and the one that is in the air -/
def ExnRel (ρ : List Addr) (K : PySem.W.Frag) (H : Hp) (e : Exn) (cls : Value) (d : Option Addr) : Prop :=
  cls = .ref (He.ga K e.cls) ∧ ∃ a gs, d = some a ∧ H a = some (.xd gs) ∧ RelF ρ K H e.fs gs
theorem ExnRel.up {e : Exn} {cls : Value} {d : Option Addr} (u : Up ρ H ρ' H') (h : ExnRel ρ K H e cls d) : ExnRel ρ' K H' e cls d := by
  obtain ⟨h1, a, gs, h2, h3, h4⟩ := h
  exact ⟨h1, a, gs, h2, u.xd _ _ h3, h4.1, h4.2.up u⟩
/-- the exception that an except suite holds: the slot of its name, where it lies, what it is -/
abbrev Lk := Option (Nat × Addr × Exn × Value × Option Addr)
def Lk.ok (L : Lk) (ρ : List Addr) (K : PySem.W.Frag) (H : Hp) (σ : St) : Prop := match L with
  | none => True
  | some (i, a, e, cls, d) => σ[i]? = some (some (.ref a)) ∧ ExnRel ρ K H e cls d
def Lk.off (L : Lk) (j : Nat) : Prop := match L with
  | none => True
  | some (i, _) => i ≠ j
/-- what is wished of exceptions, and the one that is held -/
structure WL where
  x : WX
  e : Lk
instance : CoeFun WL (fun _ => WX) := ⟨WL.x⟩
abbrev noL : WL := ⟨fun _ _ _ _ => False, none⟩
/-- slots -/
def RelS (L : Lk) (ρ : List Addr) (K : PySem.W.Frag) (H : Hp) (S : List (Option MV)) (σ : St) : Prop :=
  S.length = σ.length ∧ (∀ (i : Nat) (v : MV), S[i]? = some (some v) → ∃ u, σ[i]? = some (some u) ∧ RelM ρ K H v u) ∧ L.ok ρ K H σ
variable {L : Lk}
theorem RelS.up (u : Up ρ H ρ' H') {S : List (Option MV)} {σ : St} (h : RelS L ρ K H S σ) : RelS L ρ' K H' S σ := by
  refine ⟨h.1, fun i v e => let ⟨x, a, b⟩ := h.2.1 i v e; ⟨x, a, b.up u⟩, ?_⟩
  have := h.2.2
  cases L with
  | none => exact True.intro
  | some l => exact ⟨this.1, this.2.up u⟩
theorem RelS.none {S : List (Option MV)} {σ : St} (h : RelS L ρ K H S σ) : RelS none ρ K H S σ := ⟨h.1, h.2.1, True.intro⟩
theorem RelS.set {S : List (Option MV)} {σ : St} (h : RelS L ρ K H S σ) {x : MV} {v : V} (i : Nat) (r : RelM ρ K H x v) (hl : L.off i) : RelS L ρ K H (S.set i (some x)) (σ.set i (some v)) := by
  refine ⟨by simp [h.1], fun j y e => ?_, ?_⟩
  · by_cases hj : i = j
    · subst hj
      by_cases hl : i < S.length
      · rw [List.getElem?_set_self hl] at e
        cases e
        exact ⟨v, by rw [List.getElem?_set_self (h.1 ▸ hl)], r⟩
      · rw [List.getElem?_eq_none (by simpa using hl)] at e
        cases e
    · rw [List.getElem?_set_ne hj] at e
      obtain ⟨u, a, b⟩ := h.2.1 j y e
      exact ⟨u, by rw [List.getElem?_set_ne hj]; exact a, b⟩
  · have h3 := h.2.2
    cases L with
    | none => exact True.intro
    | some l =>
      obtain ⟨k, a, e, c, d⟩ := l
      refine ⟨?_, h3.2⟩
      rw [List.getElem?_set_ne (Ne.symm hl)]
      exact h3.1
end
end Mir
set_option Elab.async false
set_option linter.all false
set_option maxRecDepth 100000
set_option maxHeartbeats 4000000
/-! MSem: what the mirror computes. -/
namespace Mir
open PySem L2

abbrev Env := List (Option MV)
def stuck {α : Type} : M α := fun _ => .bad
def raiseE {α : Type} (e : Exn) : M α := fun w => .err e w
def alloc (c : Cell) : M MV := fun w => .ok (.ref w.length) (w ++ [c])
def bnd {α β : Type} (m : M α) (f : α → M β) : M β := fun w => match m w with
  | .ok a w' => f a w'
  | .err e w' => .err e w'
  | .bad => .bad
def ret {α : Type} (a : α) : M α := fun w => .ok a w

/-! ### truth, data -/
def truM : MV → M Bool
  | .non => ret false
  | .bl b => ret b
  | .int i => ret (i != 0)
  | .str s => if s.length ≤ sizeLine then ret ((s.length : Int) != 0) else stuck
  | .tup xs => ret (!xs.isEmpty)
  | .ref n => fun w => match w[n]? with
    | some (.lst xs) => .ok (!xs.isEmpty) w
    | some (.rdl xs) => .ok (!xs.isEmpty) w
    | some (.dic kvs) => .ok (!kvs.isEmpty) w
    | _ => .bad
  | _ => stuck

def keyD : Key → PyData
  | .inl i => .int i
  | .inr s => .str s
/-- the data that a value is, the cells read; g bounds the depth -/
def toD : Nat → Wd → MV → Option PyData
  | _, _, .non => some .none
  | _, _, .bl b => some (.bool b)
  | _, _, .int i => some (.int i)
  | _, _, .str s => some (.str s)
  | g + 1, w, .tup xs => (xs.mapM (toD g w)).map .tuple
  | g + 1, w, .ref n => match w[n]? with
    | some (.lst xs) => (xs.mapM (toD g w)).map .list
    | some (.rdl xs) => (xs.mapM (toD g w)).map .list
    | some (.dic kvs) => (kvs.mapM (fun p => (toD g w p.2).map fun d => (keyD p.1, d))).map .dict
    | _ => none
  | _, _, _ => none
abbrev deepest : Nat := 40

/-! ### operators -/
def addM : MV → MV → M MV
  | .int i, .int j => ret (.int (i + j))
  | .str a, .str b => if a.length + b.length ≤ sizeLine then ret (.str (a ++ b)) else stuck
  | .ref l, .ref m => fun w => match w[l]?, w[m]? with
    | some (.lst xs), some (.lst ys) => if xs.length + ys.length ≤ sizeLine then alloc (.lst (xs ++ ys)) w else .bad
    | _, _ => .bad
  | .tup a, .tup b => if a.length + b.length ≤ sizeLine then ret (.tup (a ++ b)) else stuck
  | _, _ => stuck
def subM : MV → MV → M MV
  | .int i, .int j => ret (.int (i - j))
  | _, _ => stuck
def mulOkB (i j : Int) : Bool := (decide (-(2 ^ 64) < i) && decide (i < 2 ^ 64)) || (decide (-(2 ^ 64) < j) && decide (j < 2 ^ 64))
def mulM : MV → MV → M MV
  | .int i, .int j => if mulOkB i j = true then ret (.int (i * j)) else if i.natAbs.log2 + j.natAbs.log2 < 1000000 then ret (.int (i * j)) else stuck
  | .str s, .int n => if 0 ≤ n ∧ n ≤ 1000000 ∧ s.length * n.toNat ≤ 10000000 then ret (.str (Txt.mul s n)) else stuck
  | .ref l, .int k => fun w => match w[l]? with
    | some (.lst xs) => if -(2 ^ 63) ≤ k ∧ k < 2 ^ 63 ∧ xs.length * k.toNat ≤ sizeLine then alloc (.lst (List.replicate k.toNat xs).flatten) w else .bad
    | _ => .bad
  | _, _ => stuck
def modM : MV → MV → M MV
  | .int i, .int j => if 0 < j then ret (.int (i % j)) else stuck
  | _, _ => stuck
def fdivM : MV → MV → M MV
  | .int i, .int j => if 0 < j ∧ j.natAbs.log2 < 9000 then ret (.int (i / j)) else stuck
  | _, _ => stuck
def powM : MV → MV → M MV
  | .int i, .int j => if 0 ≤ j ∧ j ≤ 1000000 ∧ i.natAbs < 2 ^ 64 then ret (.int (i ^ j.toNat)) else stuck
  | _, _ => stuck
def binM : Operator → MV → MV → M MV
  | .Add => addM
  | .Sub => subM
  | .Mult => mulM
  | .Mod => modM
  | .FloorDiv => fdivM
  | .Pow => powM
  | _ => fun _ _ => stuck
def unM : UnaryOp → MV → M MV
  | .USub, .int i => ret (.int (-i))
  | .Not, v => bnd (truM v) fun b => ret (.bl (!b))
  | _, _ => stuck

def eqM : MV → MV → M MV
  | .str a, .str b => ret (.bl (decide (a = b)))
  | a, b => fun w => match toD deepest w a, toD deepest w b with
    | some d, some e => if SeqAt.shaped d = true ∧ SeqAt.shaped e = true then .ok (.bl (PyData.eqv d e)) w else .bad
    | _, _ => .bad
def neM : MV → MV → M MV
  | .str a, .str b => ret (.bl (!decide (a = b)))
  | a, b => fun w => match toD deepest w a, toD deepest w b with
    | some d, some e => if SeqAt.shaped d = true ∧ SeqAt.shaped e = true then .ok (.bl (!PyData.eqv d e)) w else .bad
    | _, _ => .bad
def strLt (a b : Str) : Bool := decide (a.cps.toList < b.cps.toList)
def isNon : MV → Bool
  | .non => true
  | _ => false
def cmpM : CmpOp → MV → MV → M MV
  | .Eq, a, b => eqM a b
  | .NotEq, a, b => neM a b
  | .Lt, .int i, .int j => ret (.bl (decide (i < j)))
  | .LtE, .int i, .int j => ret (.bl (decide (i ≤ j)))
  | .Gt, .int i, .int j => ret (.bl (decide (j < i)))
  | .GtE, .int i, .int j => ret (.bl (decide (j ≤ i)))
  | .Lt, .str a, .str b => ret (.bl (strLt a b))
  | .LtE, .str a, .str b => ret (.bl (!strLt b a))
  | .In, .str a, .str b => if a.length = 1 then ret (.bl (decide (a.cps.toList.headD 0 ∈ b.cps.toList))) else stuck
  | .NotIn, .str a, .str b => if a.length = 1 then ret (.bl (!decide (a.cps.toList.headD 0 ∈ b.cps.toList))) else stuck
  | .Is, a, .non => ret (.bl (isNon a))
  | .IsNot, a, .non => ret (.bl (!isNon a))
  | _, _, _ => stuck

/-! ### places, slices -/
def idxM : MV → MV → M MV
  | .tup xs, .int i => fun w => match atI xs i with
    | some v => .ok v w
    | none => .bad
  | .str s, .int i => fun w => if s.length ≤ sizeLine then (match atI s.cps.toList i with
    | some c => .ok (.str ⟨#[c]⟩) w
    | none => .bad) else .bad
  | .ref n, .int i => fun w => match w[n]? with
    | some (.lst xs) => (match atI xs i with
      | some v => .ok v w
      | none => .bad)
    | some (.rdl xs) => (match atI xs i with
      | some v => .ok v w
      | none => .bad)
    | _ => .bad
  | _, _ => stuck
def cutL {α : Type} (xs : List α) (lo hi : Option Int) : List α := (xs.drop (HT.sIx xs.length 0 lo)).take (HT.sIx xs.length xs.length hi - HT.sIx xs.length 0 lo)
def slcM (lo hi : Option Int) : MV → M MV
  | .str s => if s.length ≤ sizeLine then ret (.str (cutS s lo hi)) else stuck
  | .tup xs => ret (.tup (cutL xs lo hi))
  | .ref n => fun w => match w[n]? with
    | some (.lst xs) => alloc (.lst (cutL xs lo hi)) w
    | some (.rdl xs) => alloc (.lst (cutL xs lo hi)) w
    | _ => .bad
  | _ => stuck
def setM : MV → MV → MV → M Unit
  | .ref n, .int k, v => fun w => match w[n]? with
    | some (.lst xs) => (match ixN xs.length k with
      | some j => .ok () (w.set n (.lst (xs.set j v)))
      | none => .bad)
    | _ => .bad
  | _, _, _ => stuck

/-! ### built-in functions and methods -/
inductive Bi where
  | len | abs | min2 | max2 | sum | int | repr | all | list | tuple | str | sorted
  deriving DecidableEq
def intsOf : List MV → Option (List Int)
  | [] => some []
  | .int i :: r => (intsOf r).map (i :: ·)
  | _ => none
def boolsOf : List MV → Option (List Bool)
  | [] => some []
  | .bl b :: r => (boolsOf r).map (b :: ·)
  | _ => none
def strsOf : List MV → Option (List Str)
  | [] => some []
  | .str b :: r => (strsOf r).map (b :: ·)
  | _ => none
def itemsM : MV → M (List MV)
  | .ref n => fun w => match w[n]? with
    | some (.lst xs) => .ok xs w
    | some (.rdl xs) => .ok xs w
    | _ => .bad
  | _ => stuck
def biM : Bi → List MV → M MV
  | .len, [.str s] => if s.length ≤ sizeLine then ret (.int s.length) else stuck
  | .len, [.tup xs] => ret (.int xs.length)
  | .len, [v] => bnd (itemsM v) fun xs => ret (.int xs.length)
  | .abs, [.int i] => ret (.int (if i < 0 then -i else i))
  | .min2, [.int i, .int j] => ret (.int (if j < i then j else i))
  | .max2, [.int i, .int j] => ret (.int (if j > i then j else i))
  | .int, [.int i] => ret (.int i)
  | .int, [.str s] => if s.length ≤ 640 ∧ (intText? s).isSome then ret (.int ((intText? s).getD 0)) else stuck
  | .str, [.int i] => if i.natAbs.log2 < 1920 then ret (.str (toString i)) else stuck
  | .str, [.str s] => ret (.str s)
  | .sorted, [v] => bnd (itemsM v) fun xs w => match intsOf xs with
    | some ns => alloc (.lst ((ns.mergeSort (fun a b => decide (a ≤ b))).map MV.int)) w
    | none => .bad
  | .sum, [v] => bnd (itemsM v) fun xs w => match intsOf xs with
    | some ns => .ok (.int ns.sum) w
    | none => .bad
  | .all, [v] => bnd (itemsM v) fun xs w => match boolsOf xs with
    | some bs => .ok (.bl (bs.all id)) w
    | none => .bad
  | .repr, [v] => fun w => match toD deepest w v with
    | some d => if d.showable = true ∧ d.shown.length ≤ sizeLine ∧ d.depth ≤ 60 then .ok (.str d.shown) w else .bad
    | none => .bad
  | .list, [.tup xs] => alloc (.lst xs)
  | .list, [v] => bnd (itemsM v) fun xs => alloc (.lst xs)
  | .tuple, [.tup xs] => ret (.tup xs)
  | .tuple, [v] => bnd (itemsM v) fun xs => ret (.tup xs)
  | _, _ => stuck
inductive Bm where
  | append | join | insert | reverse | split | splitN | extend
  deriving DecidableEq
def bmM : Bm → MV → List MV → M MV
  | .append, .ref n, [v] => fun w => match w[n]? with
    | some (.lst xs) => if xs.length < sizeLine then .ok .non (w.set n (.lst (xs ++ [v]))) else .bad
    | _ => .bad
  | .insert, .ref n, [.int i, v] => fun w => match w[n]? with
    | some (.lst xs) => if xs.length < sizeLine ∧ 0 ≤ i ∧ i < 2 ^ 63 then .ok .non (w.set n (.lst (xs.take i.toNat ++ [v] ++ xs.drop i.toNat))) else .bad
    | _ => .bad
  | .reverse, .ref n, [] => fun w => match w[n]? with
    | some (.lst xs) => .ok .non (w.set n (.lst xs.reverse))
    | _ => .bad
  | .split, .str a, [.str b] => if (b.length == 0) = false ∧ a.length + 2 ≤ sizeLine then alloc (.lst ((Txt.split a b).map MV.str)) else stuck
  | .splitN, .str a, [.str b, .int k] => if (b.length == 0) = false ∧ -(2 ^ 63) ≤ k ∧ k < 2 ^ 63 ∧ a.length + 2 ≤ sizeLine then alloc (.lst ((Txt.splitMax a b k).map MV.str)) else stuck
  | .extend, .ref n, [v] => fun w => match w[n]? with
    | some (.lst xs) => (match v with
      | .ref m => (match w[m]? with
        | some (.lst ys) => if xs.length + ys.length ≤ sizeLine then .ok .non (w.set n (.lst (xs ++ ys))) else .bad
        | _ => .bad)
      | _ => .bad)
    | _ => .bad
  | .join, .str a, [v] => bnd (itemsM v) fun xs w => match strsOf xs with
    | some ys => if (ys.map (·.length)).sum + ys.length * a.length ≤ 16777216 then .ok (.str (Txt.join a ys)) w else .bad
    | none => .bad
  | _, _, _ => stuck

/-! ### isinstance with built-in classes -/
def tyOf (w : Wd) : MV → Option String
  | .non => some "NoneType"
  | .bl _ => some "bool"
  | .int _ => some "int"
  | .str _ => some "str"
  | .tup _ => some "tuple"
  | .ref n => match w[n]? with
    | some (.lst _) => some "list"
    | some (.rdl _) => some "list"
    | some (.dic _) => some "dict"
    | _ => none
  | _ => none
def kitAnyB (a : String) : List String → Option Bool
  | [] => some false
  | b :: r => match kitB a b with
    | some true => some true
    | some false => kitAnyB a r
    | none => none
def isiM (cs : List String) (v : MV) : M MV := fun w => match tyOf w v with
  | some t => (match kitAnyB t cs with
    | some b => .ok (.bl b) w
    | none => .bad)
  | none => .bad
end Mir
set_option Elab.async false
set_option linter.all false
set_option maxRecDepth 100000
set_option maxHeartbeats 4000000
/-! MIr: the mirror's programs and what they do. -/
namespace Mir
open PySem L2

abbrev Fid := Str × Option Str
/-- what the program's text gives: its defs, which names are properties, an exception's fields -/
structure Calls where
  fn : Fid → List MV → List (Str × MV) → M MV
  prop : Str → Str → Bool
  fld : Str → Str → Bool
  own : Str → Bool
  has : Fid → Bool
  exf : Str → List Str
  err : Str → Bool
  sub : Str → Str → Bool

inductive Ex where
  | lit (v : MV)
  | var (i : Nat)
  | bin (op : Operator) (a b : Ex)
  | neg (a : Ex)
  | not (a : Ex)
  | cmp (op : CmpOp) (a b : Ex)
  | chain (o p : CmpOp) (a b c : Ex)
  | and (a b : Ex)
  | or (a b : Ex)
  | ite (c a b : Ex)
  | lst (es : List Ex)
  | tup (es : List Ex)
  | dic (ks : List Str) (es : List Ex)
  | idx (a i : Ex)
  | slc (a : Ex) (lo hi : Option Ex)
  | bi (b : Bi) (es : List Ex)
  | fst (es : List Ex)
  | fmt (z : Bool) (e : Ex)
  | lrg (e : Ex)
  | isi (e : Ex) (cs : List String)
  | bm (m : Bm) (o : Ex) (es : List Ex)
  | call (f : Str) (es : List Ex) (ks : List Str) (kes : List Ex)
  | mth (m : Str) (o : Ex) (es : List Ex) (ks : List Str) (kes : List Ex)
  | mk (C : Str) (es : List Ex)
  | att (o : Ex) (f : Str)
  | comp (elt : Ex) (i : Nat) (rng : Bool) (it : Ex) (cond : Option Ex)
  | exf (f : Str)
  | exi (C : Str)

/-- an int of a slice's end -/
def partM : Option MV → M (Option Int)
  | none => ret none
  | some (.int i) => ret (some i)
  | _ => stuck
def bmLst : Bm → Bool
  | .append | .insert | .reverse | .extend => true
  | _ => false
def bmChk (b : Bm) : MV → M Unit
  | .ref n => fun w => if bmLst b = true then (match w[n]? with
    | some (.lst _) => .ok () w
    | _ => .bad) else .bad
  | .str _ => if bmLst b = false then ret () else stuck
  | _ => stuck
/-- {x} and {x:04d} -/
def zero4 (s : Str) : Str := ⟨(List.replicate (4 - s.length) 48 ++ s.cps.toList).toArray⟩
def fmtM (z : Bool) : MV → M MV
  | .str s => if z = false ∧ s.length ≤ sizeLine then ret (.str s) else stuck
  | .int i => if z = false then (if i.natAbs.log2 < 1920 then ret (.str (toString i)) else stuck) else (if 0 ≤ i ∧ i < 10000 then ret (.str (zero4 (toString i))) else stuck)
  | _ => stuck
def lrgM : MV → M MV
  | .int j => if 0 ≤ j ∧ j ≤ 16777216 then alloc (.lst ((List.range j.toNat).map fun k : Nat => MV.int (k : Int))) else stuck
  | _ => stuck
def attM (c : Calls) (f : Str) : MV → M MV
  | .ref n => fun w => match w[n]? with
    | some (.ins C fs) => if c.own C = false then .bad else if c.prop C f = true then (match c.fn (C, some f) [.ref n] [] w with
      | .ok v w' => .ok v w'
      | _ => .bad) else (match fs.lookup f with
      | some v => if c.fld C f = true then .ok v w else .bad
      | none => .bad)
    | _ => .bad
  | _ => stuck
def mthM (c : Calls) (m : Str) (v : MV) (vs : List MV) (kvs : List (Str × MV)) (C : Str) : M MV := c.fn (C, some m) (v :: vs) kvs
/-- the class of an instance that has no attribute m of its own -/
def clsM (c : Calls) (m : Str) : MV → M Str
  | .ref n => fun w => match w[n]? with
    | some (.ins C fs) => if (fs.lookup m).isNone ∧ c.own C = true ∧ c.prop C m = false ∧ c.has (C, some m) = true then .ok C w else .bad
    | _ => .bad
  | _ => stuck
def mkM (c : Calls) (C : Str) (vs : List MV) : M MV := fun w => match c.fn (C, some "__init__") (.ref w.length :: vs) [] (w ++ [.ins C []]) with
  | .ok .non w' => .ok (.ref w.length) w'
  | .ok _ _ => .bad
  | .err e w' => .err e w'
  | .bad => .bad

/-! ### what is walked -/
inductive Itm where
  | cell (n len : Nat)
  | tup (xs : List MV)
  | str (cs : List Nat)
  | rng (lo : Int) (n : Nat)
def Itm.len : Itm → Nat
  | .cell _ l => l
  | .tup xs => xs.length
  | .str cs => cs.length
  | .rng _ n => n
def Itm.at (w : Wd) (i : Nat) : Itm → Option MV
  | .cell n l => match w[n]? with
    | some (.lst xs) => if xs.length = l then xs[i]? else none
    | some (.rdl xs) => if xs.length = l then xs[i]? else none
    | _ => none
  | .tup xs => xs[i]?
  | .str cs => (cs[i]?).map fun c => .str ⟨#[c]⟩
  | .rng lo n => if i < n then some (.int (lo + i)) else none
/-- what is walked has the length that it had -/
def Itm.fin (w : Wd) : Itm → Bool
  | .cell n l => match w[n]? with
    | some (.lst xs) => xs.length == l
    | some (.rdl xs) => xs.length == l
    | _ => false
  | _ => true
def itmM : MV → M Itm
  | .ref n => fun w => match w[n]? with
    | some (.lst xs) => .ok (.cell n xs.length) w
    | some (.rdl xs) => .ok (.cell n xs.length) w
    | _ => .bad
  | .tup xs => ret (.tup xs)
  | .str s => ret (.str s.cps.toList)
  | _ => stuck
def rngM : MV → M Itm
  | .int j => if -(2 ^ 62) ≤ j ∧ j < 2 ^ 62 then ret (.rng 0 j.toNat) else stuck
  | _ => stuck
/-- one turn of a comprehension, at the i-th item: body gives the element, or none where the test fails -/
def compL (n : Nat) (it : Itm) (body : MV → M (Option MV)) : Nat → Nat → M Unit
  | 0, _ => fun w => if it.fin w = true then .ok () w else .bad
  | k + 1, i => fun w => match it.at w i with
    | none => .bad
    | some v => match body v w with
      | .ok none w' => compL n it body k (i + 1) w'
      | .ok (some x) w' => (match w'[n]? with
        | some (.lst acc) => if acc.length < sizeLine then compL n it body k (i + 1) (w'.set n (.lst (acc ++ [x]))) else .bad
        | _ => .bad)
      | _ => .bad
def compM (it : Itm) (body : MV → M (Option MV)) : M MV := fun w => match compL w.length it body it.len 0 (w ++ [.lst []]) with
  | .ok _ w' => .ok (.ref w.length) w'
  | _ => .bad

section
variable (c : Calls) (cur : Option Exn)
mutual
def den : Ex → Env → M MV
  | .lit v, _ => ret v
  | .var i, S => match S[i]? with
    | some (some v) => ret v
    | _ => stuck
  | .bin op a b, S => bnd (den a S) fun v => bnd (den b S) fun u => binM op v u
  | .neg a, S => bnd (den a S) fun v => unM .USub v
  | .not a, S => bnd (den a S) fun v => unM .Not v
  | .cmp op a b, S => bnd (den a S) fun v => bnd (den b S) fun u => cmpM op v u
  | .chain o p a b d, S => bnd (den a S) fun v => bnd (den b S) fun u => bnd (cmpM o v u) fun r => match r with
    | .bl true => bnd (den d S) fun z => cmpM p u z
    | .bl false => ret (.bl false)
    | _ => stuck
  | .and a b, S => bnd (den a S) fun v => bnd (truM v) fun t => if t = true then den b S else ret v
  | .or a b, S => bnd (den a S) fun v => bnd (truM v) fun t => if t = true then ret v else den b S
  | .ite d a b, S => bnd (den d S) fun v => bnd (truM v) fun t => if t = true then den a S else den b S
  | .lst es, S => bnd (denL es S) fun vs => if vs.length ≤ sizeLine then alloc (.lst vs) else stuck
  | .tup es, S => bnd (denL es S) fun vs => if vs.length ≤ sizeLine then ret (.tup vs) else stuck
  | .dic ks es, S => fun w => match denL es S (w ++ [.dic []]) with
    | .ok vs w' => (match w'[w.length]? with
      | some (.dic []) => if ks.length = vs.length ∧ ks.Nodup ∧ vs.length ≤ 15 ∧ vs.length ≠ 0 then .ok (.ref w.length) (w'.set w.length (.dic (ks.zipWith (fun k v => (Sum.inr k, v)) vs))) else .bad
      | _ => .bad)
    | .err e w' => .err e w'
    | .bad => .bad
  | .idx a i, S => bnd (den a S) fun v => bnd (den i S) fun u => idxM v u
  | .slc a lo hi, S => bnd (den a S) fun v => bnd (denO lo S) fun l => bnd (partM l) fun lo => bnd (denO hi S) fun h => bnd (partM h) fun hi => slcM lo hi v
  | .bi b es, S => bnd (denL es S) fun vs => biM b vs
  | .fst es, S => denJ es Str.empty S
  | .fmt z e, S => bnd (den e S) fun v => fmtM z v
  | .lrg e, S => bnd (den e S) fun v => lrgM v
  | .isi e cs, S => bnd (den e S) fun v => isiM cs v
  | .bm m o es, S => bnd (den o S) fun v => bnd (bmChk m v) fun _ => bnd (denL es S) fun vs => bmM m v vs
  | .call f es ks kes, S => bnd (denL es S) fun vs => bnd (denL kes S) fun us => c.fn (f, none) vs (ks.zip us)
  | .mth m o es ks kes, S => bnd (den o S) fun v => bnd (clsM c m v) fun C => bnd (denL es S) fun vs => bnd (denL kes S) fun us => mthM c m v vs (ks.zip us) C
  | .mk C es, S => bnd (denL es S) fun vs => mkM c C vs
  | .att o f, S => bnd (den o S) fun v => attM c f v
  | .comp elt i rng it cond, S => bnd (den it S) fun v => bnd (if rng = true then rngM v else itmM v) fun I => compM I fun x =>
      bnd (denT cond (S.set i (some x))) fun t => if t = true then bnd (den elt (S.set i (some x))) fun y => ret (some y) else ret none
  | .exf f, _ => match cur with
    | some e => if (c.exf e.cls).contains f = true then (match e.fs.lookup f with
      | some v => ret v
      | none => stuck) else stuck
    | none => stuck
  | .exi C, _ => match cur with
    | some e => if c.exf e.cls ≠ [] ∧ c.err C = true then ret (.bl (c.sub e.cls C)) else stuck
    | none => stuck
def denL : List Ex → Env → M (List MV)
  | [], _ => ret []
  | e :: es, S => bnd (den e S) fun v => bnd (denL es S) fun vs => ret (v :: vs)
def denJ : List Ex → Str → Env → M MV
  | [], acc, _ => ret (.str acc)
  | e :: es, acc, S => bnd (den e S) fun v => match v with
    | .str y => if (acc ++ y).length ≤ sizeLine then denJ es (acc ++ y) S else stuck
    | _ => stuck
def denO : Option Ex → Env → M (Option MV)
  | none, _ => ret none
  | some e, S => bnd (den e S) fun v => ret (some v)
def denT : Option Ex → Env → M Bool
  | none, _ => ret true
  | some e, S => bnd (den e S) truM
end
end

/-! ### statements -/
inductive Tg where
  | var (i : Nat)
  | tup (is : List Nat)
  | sub (o i : Ex)
  | att (o : Ex) (f : Str)
inductive Sx where
  | asg (t : Tg) (e : Ex)
  | aug (i : Nat) (op : Operator) (e : Ex)
  | expr (e : Ex)
  | ret (e : Option Ex)
  | ife (d : Ex) (a b : List Sx)
  | forE (i : Nat) (rng : Bool) (it : Ex) (b : List Sx)
  | whl (d : Ex) (b : List Sx)
  | wlw (i : Nat) (e : Ex) (b : List Sx)
  | raise (C : Str) (es : List Ex)
  | tryE (b : List Sx) (cs : List (Str × Option Nat)) (bs : List (List Sx))
  | brk
  | cnt
  | pas
inductive Fl where
  | nx (S : Env)
  | rt (v : MV)
  | bk (S : Env)
  | ct (S : Env)
  | ex (e : Exn) (S : Env)
/-- as bnd; an error ends the statement, with the slots as they are -/
def bndX {α : Type} (S : Env) (m : M α) (f : α → M Fl) : M Fl := fun w => match m w with
  | .ok a w' => f a w'
  | .err e w' => .ok (.ex e S) w'
  | .bad => .bad

def setF (f : Str) (v : MV) : List (Str × MV) → List (Str × MV)
  | [] => [(f, v)]
  | (g, u) :: r => if g = f then (g, v) :: r else (g, u) :: setF f v r
def attS (c : Calls) (f : Str) : MV → MV → M Unit
  | .ref n, v => fun w => match w[n]? with
    | some (.ins C fs) => if fs.length < 900 ∧ c.own C = true ∧ c.fld C f = true then .ok () (w.set n (.ins C (setF f v fs))) else .bad
    | _ => .bad
  | _, _ => stuck
def setAll : Env → List Nat → List MV → Env
  | S, i :: is, v :: vs => setAll (S.set i (some v)) is vs
  | S, _, _ => S
def itemsT : MV → M (List MV)
  | .tup xs => ret xs
  | _ => stuck
/-- the name of a clause goes -/
def Fl.clr (oi : Option Nat) (S : Env) : Env := match oi with
  | none => S
  | some i => S.set i none
/-- behind an except suite -/
def suiM (oi : Option Nat) (m : M Fl) : M Fl := fun w => match m w with
  | .ok (.nx S) w' => .ok (.nx (Fl.clr oi S)) w'
  | .ok (.bk S) w' => .ok (.bk (Fl.clr oi S)) w'
  | .ok (.ct S) w' => .ok (.ct (Fl.clr oi S)) w'
  | .ok (.rt v) w' => .ok (.rt v) w'
  | _ => .bad
def whileN : Nat := 2 ^ 40
section
variable (c : Calls)
def asgM (cur : Option Exn) : Tg → MV → Env → M Env
  | .var i, v, S => ret (S.set i (some v))
  | .tup is, v, S => bnd (itemsT v) fun xs => if xs.length = is.length then ret (setAll S is xs) else stuck
  | .sub o i, v, S => bnd (den c cur o S) fun p => bnd (den c cur i S) fun k => bnd (setM p k v) fun _ => ret S
  | .att o f, v, S => bnd (den c cur o S) fun p => bnd (attS c f p v) fun _ => ret S
/-- a for: body at each item -/
def forL (it : Itm) (body : MV → Env → M Fl) : Nat → Nat → Env → M Fl
  | 0, _, S => fun w => if it.fin w = true then .ok (.nx S) w else .bad
  | k + 1, i, S => fun w => match it.at w i with
    | none => .bad
    | some v => match body v S w with
      | .ok (.nx S') w' => forL it body k (i + 1) S' w'
      | .ok (.ct S') w' => forL it body k (i + 1) S' w'
      | .ok (.bk S') w' => .ok (.nx S') w'
      | .ok (.rt u) w' => .ok (.rt u) w'
      | .ok (.ex e S') w' => .ok (.ex e S') w'
      | _ => .bad
def whlL (test : Env → M Bool) (body : Env → M Fl) : Nat → Env → M Fl
  | 0, _ => stuck
  | k + 1, S => bndX S (test S) fun t => if t = true then (fun w => match body S w with
      | .ok (.nx S') w' => whlL test body k S' w'
      | .ok (.ct S') w' => whlL test body k S' w'
      | .ok (.bk S') w' => .ok (.nx S') w'
      | .ok (.rt u) w' => .ok (.rt u) w'
      | .ok (.ex e S') w' => .ok (.ex e S') w'
      | _ => .bad) else ret (.nx S)
/-- while (x := e) is not None -/
def wlwL (val : Env → M MV) (i : Nat) (body : Env → M Fl) : Nat → Env → M Fl
  | 0, _ => stuck
  | k + 1, S => bndX S (val S) fun v => if isNon v = true then ret (.nx (S.set i (some v))) else (fun w => match body (S.set i (some v)) w with
      | .ok (.nx S') w' => wlwL val i body k S' w'
      | .ok (.ct S') w' => wlwL val i body k S' w'
      | .ok (.bk S') w' => .ok (.nx S') w'
      | .ok (.rt u) w' => .ok (.rt u) w'
      | .ok (.ex e S') w' => .ok (.ex e S') w'
      | _ => .bad)
mutual
def exe (cur : Option Exn) : Sx → Env → M Fl
  | .asg t e, S => bndX S (den c cur e S) fun v => bndX S (asgM c cur t v S) fun S' => ret (.nx S')
  | .aug i op e, S => match S[i]? with
    | some (some v) => bndX S (den c cur e S) fun u => bndX S (match v with | .int _ => binM op v u | .str _ => binM op v u | _ => stuck) fun z => ret (.nx (S.set i (some z)))
    | _ => stuck
  | .expr e, S => bndX S (den c cur e S) fun _ => ret (.nx S)
  | .ret none, _ => ret (.rt .non)
  | .ret (some e), S => bndX S (den c cur e S) fun v => ret (.rt v)
  | .ife d a b, S => bndX S (bnd (den c cur d S) truM) fun t => if t = true then exeL cur a S else exeL cur b S
  | .forE i rng it b, S => bndX S (bnd (den c cur it S) fun v => if rng = true then rngM v else itmM v) fun I => forL I (fun x S => exeL cur b (S.set i (some x))) I.len 0 S
  | .whl d b, S => whlL (fun S => bnd (den c cur d S) truM) (fun S => exeL cur b S) whileN S
  | .wlw i e b, S => wlwL (fun S => den c cur e S) i (fun S => exeL cur b S) whileN S
  | .raise C es, S => bndX S (denL c cur es S) fun vs => if vs.length = (c.exf C).length then ret (.ex ⟨C, ((c.exf C).zip vs).reverse⟩ S) else stuck
  | .tryE b cs bs, S => fun w => match exeL cur b S w with
    | .ok (.ex e S') w' => exeH cs bs e S' w'
    | r => r
  | .brk, S => ret (.bk S)
  | .cnt, S => ret (.ct S)
  | .pas, S => ret (.nx S)
def exeL (cur : Option Exn) : List Sx → Env → M Fl
  | [], S => ret (.nx S)
  | s :: r, S => fun w => match exe cur s S w with
    | .ok (.nx S') w' => exeL cur r S' w'
    | x => x
def exeH : List (Str × Option Nat) → List (List Sx) → Exn → Env → M Fl
  | (C, oi) :: cs, b :: bs, e, S => if c.exf e.cls ≠ [] ∧ c.err C = true then (if c.sub e.cls C = true then suiM oi (match oi with
      | none => exeL none b S
      | some i => if i < S.length then exeL (some e) b (S.set i none) else stuck) else exeH cs bs e S) else stuck
  | _, _, e, S => ret (.ex e S)
end
end
end Mir
set_option Elab.async false
set_option linter.all false
set_option maxRecDepth 100000
set_option maxHeartbeats 4000000
namespace Mir
open PySem L2
/-! MBind: how a call's arguments come to the parameters. -/
def fillD {α : Type} : List (Str × α) → List (Str × α) → List (Str × α)
  | s, [] => s
  | s, (n, d) :: r => fillD (if (s.lookup n).isNone then s ++ [(n, d)] else s) r
def kwOk {α : Type} (ps : List Str) : List (Str × α) → List (Str × α) → Bool
  | _, [] => true
  | s, (k, v) :: r => ps.contains k && (s.lookup k).isNone && kwOk ps (s ++ [(k, v)]) r
def bindL {α : Type} (ps : List Str) (us : List α) (kws : List (Str × α)) (dfl : List α) : Option (List α) :=
  if us.length ≤ ps.length ∧ dfl.length ≤ ps.length ∧ ps.Nodup ∧ kwOk ps (ps.zip us) kws = true then
    ps.mapM fun n => (fillD (ps.zip us ++ kws) ((ps.drop (ps.length - dfl.length)).zip dfl)).lookup n
  else none
theorem look_append {α : Type} : ∀ (s t : List (Str × α)) (n : Str), (s ++ t).lookup n = (s.lookup n).or (t.lookup n)
  | [], t, n => by simp
  | (k, v) :: s, t, n => by
    simp only [List.cons_append, List.lookup_cons]
    split
    · rfl
    · exact look_append s t n
theorem fillD_old {α : Type} {n : Str} : ∀ (r s : List (Str × α)) {v : α}, s.lookup n = some v → (fillD s r).lookup n = some v
  | [], s, v, h => h
  | (k, d) :: r, s, v, h => by
    unfold fillD
    split
    · exact fillD_old r _ (by rw [look_append, h]; rfl)
    · exact fillD_old r _ h
theorem fillD_not {α : Type} {n : Str} : ∀ (r s : List (Str × α)), n ∉ r.map (·.1) → (fillD s r).lookup n = s.lookup n
  | [], s, h => rfl
  | (k, d) :: r, s, h => by
    simp only [List.map_cons, List.mem_cons, not_or] at h
    unfold fillD
    split
    · rw [fillD_not r _ h.2, look_append]
      have : (n == k) = false := by simpa using h.1
      simp [List.lookup_cons, this]
    · exact fillD_not r _ h.2
theorem mapM_zip {α : Type} (f : Str → Option α) : ∀ {ps : List Str} {vs : List α}, ps.mapM f = some vs → ps.filterMap (fun n => (f n).map (n, ·)) = ps.zip vs ∧ ∀ n ∈ ps, ∃ v, f n = some v
  | [], vs, h => by cases h; exact ⟨rfl, fun _ h => by cases h⟩
  | p :: ps, vs, h => by
    rw [List.mapM_cons] at h
    cases e : f p with
    | none => rw [e] at h; cases h
    | some y =>
      rw [e] at h
      cases e2 : ps.mapM f with
      | none => rw [e2] at h; cases h
      | some r =>
        rw [e2] at h; cases h
        obtain ⟨h1, h2⟩ := mapM_zip f e2
        refine ⟨by simp [e, h1], fun n hn => ?_⟩
        rcases List.mem_cons.mp hn with rfl | hn
        · exact ⟨y, e⟩
        · exact h2 n hn
theorem kw_loop {ps : List Str} {β : Type} {f : Str × Value → (List (Str × Value) × β) → Sem (ForInStep (List (Str × Value) × β))}
    (hf : ∀ x st, ps.contains x.1 = true → (st.1.lookup x.1).isNone = true → f x st = pure (.yield (st.1 ++ [x], st.2))) :
    ∀ (kws : List (Str × Value)) (st : List (Str × Value) × β), kwOk ps st.1 kws = true → forIn kws st f = pure (st.1 ++ kws, st.2)
  | [], st, _ => by simp
  | x :: kws, st, h => by
    obtain ⟨k, v⟩ := x
    simp only [kwOk, Bool.and_eq_true] at h
    rw [List.forIn_cons, hf _ _ h.1.1 h.1.2]
    have := kw_loop hf kws (st.1 ++ [(k, v)], st.2) h.2
    simp only [List.append_assoc, List.singleton_append] at this
    exact this
theorem fill_loop {f : Str × Value → List (Str × Value) → Sem (ForInStep (List (Str × Value)))}
    (hf : ∀ x st, f x st = pure (.yield (if (st.lookup x.1).isNone then st ++ [x] else st))) :
    ∀ (r st : List (Str × Value)), forIn r st f = pure (fillD st r)
  | [], st => by simp [fillD]
  | x :: r, st => by
    obtain ⟨k, v⟩ := x
    rw [List.forIn_cons, hf]
    exact fill_loop hf r _
theorem bind_ok {fd : FuncData} {as : List PySem.Arg} {dflts : List Expr} {ps : List Str} {us : List Value} {kws : List (Str × Value)} {its vs : List Value} {s : Shared}
    (hp : fd.params = { posonlyargs := [], args := as, vararg := none, kwonlyargs := [], kw_defaults := [], kwarg := none, defaults := dflts }) (ha : as.map (·.arg) = ps)
    (hd : (its = [] ∧ fd.defaults = .none) ∨ ∃ (T : Addr) (o : Obj) (n : Nat), fd.defaults = .ref T ∧ s.heap.get? T = some o ∧ o.data = .seq its.toArray n)
    (h : bindL ps us kws its = some vs) : BindsTo s fd ⟨us, kws⟩ (ps.zip vs) := by
  unfold bindL at h
  split at h
  · next hc =>
    obtain ⟨h1, h2, h3, h4⟩ := hc
    obtain ⟨z1, z2⟩ := mapM_zip _ h
    have hmiss : (ps.take (ps.length - its.length)).filter (fun n => ((ps.zip us ++ kws).lookup n).isNone) = [] := by
      rw [List.filter_eq_nil_iff]
      intro n hn
      obtain ⟨v, hv⟩ := z2 n (List.mem_of_mem_take hn)
      have hnot : n ∉ ((ps.drop (ps.length - its.length)).zip its).map (·.1) := by
        intro hm
        obtain ⟨p, hp, rfl⟩ := List.mem_map.mp hm
        have h6 := (List.of_mem_zip (show (p.1, p.2) ∈ _ from hp)).1
        have h7 := h3
        rw [← List.take_append_drop (ps.length - its.length) ps, List.nodup_append] at h7
        exact h7.2.2 _ hn _ h6 rfl
      rw [fillD_not _ _ hnot] at hv
      simp [hv]
    intro M A E Q q
    unfold bindArgs
    simp only [hp, ha, List.map_nil, List.nil_append, List.append_nil]
    rw [kw_loop (ps := ps) (fun x st h6 h7 => by
      rw [if_pos (by rw [h6]; rfl)]
      have : (List.lookup x.1 st.1).isSome = false := by
        cases e : List.lookup x.1 st.1 with
        | none => rfl
        | some y => rw [e] at h7; cases h7
      rw [if_neg (by simp [this])]) kws (ps.zip us, []) h4]
    refine wpAny_bind (wpAny_pure (wpAny_bind ?_))
    rcases hd with ⟨e1, e2⟩ | ⟨T, o, n, e1, e2, e3⟩
    · rw [e2]
      refine wpAny_pure ?_
      have EE : (Option.getD (none : Option (Array Value)) #[]).toList = its := e1.symm
      have e0 : its.length - ps.length = 0 := Nat.sub_eq_zero_of_le h2
      simp only [EE, e0, List.drop_zero]
      rw [if_neg (by simp; omega), if_neg (by rw [hmiss]; simp)]
      rw [fill_loop (fun x st => by split <;> rfl)]
      refine wpAny_bind (wpAny_pure ?_)
      rw [List.forIn_nil]
      refine wpAny_bind (wpAny_pure ?_)
      rw [if_neg (by simp)]
      refine wpAny_pure ?_
      rw [z1]
      exact q
    · rw [e1]
      refine wpAny_seqItems e2 e3 ?_
      have EE : (Option.getD (some its.toArray) #[]).toList = its := rfl
      have e0 : its.length - ps.length = 0 := Nat.sub_eq_zero_of_le h2
      simp only [EE, e0, List.drop_zero]
      rw [if_neg (by simp; omega), if_neg (by rw [hmiss]; simp)]
      rw [fill_loop (fun x st => by split <;> rfl)]
      refine wpAny_bind (wpAny_pure ?_)
      rw [List.forIn_nil]
      refine wpAny_bind (wpAny_pure ?_)
      rw [if_neg (by simp)]
      refine wpAny_pure ?_
      rw [z1]
      exact q
  · cases h
end Mir
set_option Elab.async false
set_option linter.all false
set_option maxRecDepth 100000
set_option maxHeartbeats 4000000
/-! MPrim: the relation kept by new and changed cells; data; operators. -/
namespace Mir
open PySem L2
section
variable {ρ ρ' : List Addr} {K : PySem.W.Frag} {H H' : Hp} {W W' : Wd}

theorem Up.fresh {p : Addr} {o : HO} (hp : H p = none) : Up ρ H (ρ ++ [p]) (upd H p o) := by
  refine ⟨fun n q h => ?_, fun q xs h => ?_, fun q a b h => ?_, fun q gs h => ?_⟩
  · have hl : n < ρ.length := (List.getElem?_eq_some_iff.mp h).1
    rw [List.getElem?_append_left hl]; exact h
  · rw [upd_ne (ne_of_none h hp)]; exact h
  · rw [upd_ne (ne_of_none h hp)]; exact h
  · rw [upd_ne (ne_of_none h hp)]; exact h
theorem Up.fresh0 {p : Addr} {o : HO} (hp : H p = none) : Up ρ H ρ (upd H p o) := by
  refine ⟨fun n q h => h, fun q xs h => ?_, fun q a b h => ?_, fun q gs h => ?_⟩
  · rw [upd_ne (ne_of_none h hp)]; exact h
  · rw [upd_ne (ne_of_none h hp)]; exact h
  · rw [upd_ne (ne_of_none h hp)]; exact h
theorem Up.write {p : Addr} {o u : HO} (hp : H p = some u) (ht : ∀ xs, u ≠ .tup xs) (hf : ∀ a b, u ≠ .frz a b) (hx : ∀ gs, u ≠ .xd gs) : Up ρ H ρ (upd H p o) := by
  refine ⟨fun n q h => h, fun q xs h => ?_, fun q a b h => ?_, fun q gs h => ?_⟩
  · rw [upd_ne (fun e => ht xs (by rw [e, hp] at h; exact Option.some.inj h))]; exact h
  · rw [upd_ne (fun e => hf a b (by rw [e, hp] at h; exact Option.some.inj h))]; exact h
  · rw [upd_ne (fun e => hx gs (by rw [e, hp] at h; exact Option.some.inj h))]; exact h

theorem RelF.up {fs : List (Str × MV)} {gs : List (Str × V)} (u : Up ρ H ρ' H') (r : RelF ρ K H fs gs) : RelF ρ' K H' fs gs := ⟨r.1, r.2.up u⟩
theorem RelK.up {fs : List (Key × MV)} {gs : List (Key × V)} (u : Up ρ H ρ' H') (r : RelK ρ K H fs gs) : RelK ρ' K H' fs gs := ⟨r.1, r.2.up u⟩
/-- a cell whose object stays -/
theorem CellRel.keep {p : Addr} {c : Cell} (u : Up ρ H ρ' H') (h : CellRel ρ K H p c) (k : c.mut = true → H' p = H p) : CellRel ρ' K H' p c := by
  cases c with
  | lst xs => obtain ⟨vs, e, r⟩ := h; exact ⟨vs, (k rfl).trans e, r.up u⟩
  | rdl xs =>
    obtain ⟨vs, e, r⟩ := h
    refine ⟨vs, ?_, r.up u⟩
    rcases e with ⟨o, e⟩ | e
    · exact .inl ⟨o, u.frz _ _ _ e⟩
    · exact .inr e
  | dic kvs => obtain ⟨gs, e, r⟩ := h; exact ⟨gs, (k rfl).trans e, r.up u⟩
  | ins C fs => obtain ⟨dx, gs, e, r⟩ := h; exact ⟨dx, gs, (k rfl).trans e, r.up u⟩
  | dead => exact True.intro
theorem CellRel.tracked {p : Addr} {c : Cell} (h : CellRel ρ K H p c) (hm : c.mut = true) : ∃ o, H p = some o ∧ (∀ xs, o ≠ .tup xs) ∧ (∀ a b, o ≠ .frz a b) ∧ ∀ gs, o ≠ .xd gs := by
  cases c with
  | lst xs => obtain ⟨vs, e, r⟩ := h; exact ⟨_, e, fun _ q => (by cases q), fun _ _ q => (by cases q), fun _ q => (by cases q)⟩
  | rdl xs => cases hm
  | dic kvs => obtain ⟨gs, e, r⟩ := h; exact ⟨_, e, fun _ q => (by cases q), fun _ _ q => (by cases q), fun _ q => (by cases q)⟩
  | ins C fs => obtain ⟨dx, gs, e, r⟩ := h; exact ⟨_, e, fun _ q => (by cases q), fun _ _ q => (by cases q), fun _ q => (by cases q)⟩
  | dead => cases hm
/-- nothing of the cells is touched -/
theorem SimW.keep (S : SimW ρ K W H) (u : Up ρ H ρ H') (k : ∀ p o, H p = some o → H' p = some o) : SimW ρ K W H' := by
  refine ⟨S.len, S.inj, fun n p c e1 e2 => (S.cell n p c e1 e2).keep u fun hm => ?_⟩
  obtain ⟨o, e, _⟩ := (S.cell n p c e1 e2).tracked hm
  rw [e]; exact k p o e
theorem SimW.fresh0 {p : Addr} {o : HO} (S : SimW ρ K W H) (hp : H p = none) : SimW ρ K W (upd H p o) :=
  S.keep (Up.fresh0 hp) fun q o e => by rw [upd_ne (ne_of_none e hp)]; exact e
/-- a new cell -/
theorem SimW.new {p : Addr} {o : HO} {c : Cell} (S : SimW ρ K W H) (hp : H p = none) (hc : CellRel (ρ ++ [p]) K (upd H p o) p c) : SimW (ρ ++ [p]) K (W ++ [c]) (upd H p o) := by
  have U : Up ρ H (ρ ++ [p]) (upd H p o) := Up.fresh hp
  have split : ∀ {n : Nat} {q : Addr} {d : Cell}, (ρ ++ [p])[n]? = some q → (W ++ [c])[n]? = some d → (ρ[n]? = some q ∧ W[n]? = some d) ∨ (n = ρ.length ∧ q = p ∧ d = c) := by
    intro n q d e1 e2
    by_cases hn : n < ρ.length
    · rw [List.getElem?_append_left hn] at e1
      rw [List.getElem?_append_left (by rw [← S.len]; exact hn)] at e2
      exact .inl ⟨e1, e2⟩
    · have : n = ρ.length := by
        have := (List.getElem?_eq_some_iff.mp e1).1
        simp at this; omega
      subst this
      rw [List.getElem?_append_right (Nat.le_refl _)] at e1
      rw [S.len, List.getElem?_append_right (Nat.le_refl _)] at e2
      simp at e1 e2
      exact .inr ⟨rfl, e1.symm, e2.symm⟩
  have ne : ∀ {n : Nat} {q : Addr} {d : Cell}, ρ[n]? = some q → W[n]? = some d → d.mut = true → q ≠ p := by
    intro n q d e1 e2 hm z
    obtain ⟨u, e, _⟩ := (S.cell n q d e2 e1).tracked hm
    rw [z, hp] at e; cases e
  refine ⟨by simp [S.len], fun n m q c1 d1 e1 e2 e3 e4 h1 h2 => ?_, fun n q d e1 e2 => ?_⟩
  · rcases split e1 e3 with ⟨a1, a3⟩ | ⟨a1, a2, a3⟩ <;> rcases split e2 e4 with ⟨b1, b3⟩ | ⟨b1, b2, b3⟩
    · exact S.inj n m q c1 d1 a1 b1 a3 b3 h1 h2
    · exact absurd b2 (ne a1 a3 h1)
    · exact absurd a2 (ne b1 b3 h2)
    · rw [a1, b1]
  · rcases split e2 e1 with ⟨a1, a3⟩ | ⟨a1, a2, a3⟩
    · exact (S.cell n q d a3 a1).keep U fun hm => upd_ne (ne a1 a3 hm)
    · subst a2 a3; exact hc
/-- a changed cell -/
theorem SimW.write {n : Nat} {p : Addr} {o : HO} {c c' : Cell} (S : SimW ρ K W H) (e1 : W[n]? = some c) (e2 : ρ[n]? = some p) (hm : c.mut = true) (hc : CellRel ρ K (upd H p o) p c') : SimW ρ K (W.set n c') (upd H p o) ∧ Up ρ H ρ (upd H p o) := by
  obtain ⟨u, eu, ht, hf, hx⟩ := (S.cell n p c e1 e2).tracked hm
  have U : Up ρ H ρ (upd H p o) := Up.write eu ht hf hx
  have hl : n < W.length := (List.getElem?_eq_some_iff.mp e1).1
  have at_ : ∀ {m : Nat} {d : Cell}, (W.set n c')[m]? = some d → (m = n ∧ d = c') ∨ (m ≠ n ∧ W[m]? = some d) := by
    intro m d e
    by_cases h : n = m
    · subst h; rw [List.getElem?_set_self hl] at e; exact .inl ⟨rfl, (Option.some.inj e).symm⟩
    · rw [List.getElem?_set_ne h] at e; exact .inr ⟨Ne.symm h, e⟩
  refine ⟨⟨by simp [S.len], fun m k q c1 d1 a1 a2 a3 a4 h1 h2 => ?_, fun m q d a1 a2 => ?_⟩, U⟩
  · rcases at_ a3 with ⟨b1, b2⟩ | ⟨b1, b2⟩ <;> rcases at_ a4 with ⟨b3, b4⟩ | ⟨b3, b4⟩
    · rw [b1, b3]
    · subst b1; rw [e2] at a1; cases a1
      exact S.inj _ _ _ _ _ e2 a2 e1 b4 hm h2
    · subst b3; rw [e2] at a2; cases a2
      exact S.inj _ _ _ _ _ a1 e2 b2 e1 h1 hm
    · exact S.inj _ _ _ _ _ a1 a2 b2 b4 h1 h2
  · rcases at_ a1 with ⟨b1, b2⟩ | ⟨b1, b2⟩
    · subst b1 b2; rw [e2] at a2; cases a2; exact hc
    · refine (S.cell m q d b2 a2).keep U fun hm2 => upd_ne fun z => b1 ?_
      subst z
      exact S.inj _ _ _ _ _ a2 e2 b2 e1 hm2 hm

/-! ### what is wanted of a primitive's answer -/
def PostP (ρ : List Addr) (K : PySem.W.Frag) (H : Hp) (Q : VK) : Res MV → Prop
  | .ok v W' => ∀ ρ' H' u, Up ρ H ρ' H' → SimW ρ' K W' H' → RelM ρ' K H' v u → Q u H'
  | _ => False
theorem PostP.here {Q : VK} {v : MV} {u : V} (h : PostP ρ K H Q (.ok v W)) (S : SimW ρ K W H) (r : RelM ρ K H v u) : Q u H := h ρ H u .refl S r
theorem PostP.new {Q : VK} {p : Addr} {o : HO} {c : Cell} (h : PostP ρ K H Q (alloc c W)) (S : SimW ρ K W H) (hp : H p = none) (hc : CellRel (ρ ++ [p]) K (upd H p o) p c) : Q (.ref p) (upd H p o) := by
  refine h (ρ ++ [p]) (upd H p o) (.ref p) (Up.fresh hp) (S.new hp hc) ?_
  unfold RelM
  exact ⟨p, rfl, by rw [← S.len]; simp⟩
theorem PostP.newL {Q : VK} {p : Addr} {xs : List MV} {vs : List V} (h : PostP ρ K H Q (alloc (.lst xs) W)) (S : SimW ρ K W H) (r : RelMs ρ K H xs vs) (hp : H p = none) : Q (.ref p) (upd H p (.lst vs)) :=
  h.new S hp ⟨vs, upd_same, r.up (Up.fresh hp)⟩

/-- a list that is read -/
theorem SimW.lst (S : SimW ρ K W H) {n : Nat} {xs : List MV} {p : Addr} (e : W[n]? = some (.lst xs)) (ep : ρ[n]? = some p) : ∃ vs, H p = some (.lst vs) ∧ RelMs ρ K H xs vs := S.cell n p _ e ep
theorem SimW.rdl (S : SimW ρ K W H) {n : Nat} {xs : List MV} {p : Addr} (e : W[n]? = some (.rdl xs)) (ep : ρ[n]? = some p) : ∃ vs, SqL K H p vs ∧ RelMs ρ K H xs vs := by
  obtain ⟨vs, h, r⟩ := S.cell n p _ e ep
  refine ⟨vs, ?_, r⟩
  rcases h with ⟨o, h⟩ | h
  · exact .inl (.inr ⟨o, h⟩)
  · exact h H
/-- itemsM -/
theorem items_ok {v : MV} {xs : List MV} {W1 : Wd} {x : V} (S : SimW ρ K W H) (r : RelM ρ K H v x) (e : itemsM v W = .ok xs W1) : W1 = W ∧ ∃ p vs, x = .ref p ∧ SqL K H p vs ∧ RelMs ρ K H xs vs := by
  cases v with
  | ref n =>
    unfold RelM at r
    obtain ⟨p, rfl, ep⟩ := r
    simp only [itemsM] at e
    split at e
    · next ys e1 => cases e; obtain ⟨vs, a, b⟩ := S.lst e1 ep; exact ⟨rfl, p, vs, rfl, SqL.of a, b⟩
    · next ys e1 => cases e; obtain ⟨vs, a, b⟩ := S.rdl e1 ep; exact ⟨rfl, p, vs, rfl, a, b⟩
    · cases e
  | _ => cases e
end
end Mir
set_option Elab.async false
set_option linter.all false
set_option maxRecDepth 100000
set_option maxHeartbeats 4000000
/-! MOps: data read off the heap; operators, comparisons, places, slices. -/
namespace Mir
open PySem L2

structure CtxOk (X : Cx) : Prop where
  nd : X.N.Nodup
  gd : X.A.guards = some []
  un : X.A.units + 200 < cLine
  calm : X.calm = true
  sys : ∃ o, X.K.lookup sysModules = some o ∧ o.cls = .type "dict"

section
variable {X : Cx} {pins : List (Addr × Obj)} {σ : St} {H : Hp} {s : Shared} {ρ : List Addr} {W : Wd}

theorem mapM_nil {α β : Type} (f : α → Option β) : ([] : List α).mapM f = some [] := rfl
theorem mapM_cons_some {α β : Type} {f : α → Option β} {x : α} {xs : List α} {ys : List β} (h : (x :: xs).mapM f = some ys) : ∃ y r, f x = some y ∧ xs.mapM f = some r ∧ ys = y :: r := by
  rw [List.mapM_cons] at h
  cases e : f x with
  | none => rw [e] at h; cases h
  | some y =>
    rw [e] at h
    cases e2 : xs.mapM f with
    | none => rw [e2] at h; cases h
    | some r => rw [e2] at h; cases h; exact ⟨y, r, rfl, rfl, rfl⟩

theorem key_reads {k : Key} {u : Value} (h : keyIs k u = true) (hp : Heap) : Reads hp u (keyD k) [] := by
  rcases keyIs_shape h with ⟨i, t, rfl, rfl⟩ | ⟨x, t, rfl, rfl⟩
  · exact .int i t
  · exact .str x t
theorem keys_reads {P : Program} {w : World} : ∀ {es : List DictEntry} {kvs : List (Key × Value)} (hp : Heap), Pairs (mixKind P w) es kvs → ReadsAll hp (es.map (·.key)) (kvs.map fun p => keyD p.1) []
  | _, _, hp, h => by
    induction h with
    | nil => exact .nil
    | cons a b _ ih => exact ReadsAll.cons (key_reads a hp) ih
theorem kv_split : ∀ {gs : List (Key × V)} {ws : List (Key × Value)}, KV gs ws → Vals (gs.map (·.2)) (ws.map (·.2)) ∧ gs.map (·.1) = ws.map (·.1)
  | _, _, .nil => ⟨.nil, rfl⟩
  | _, _, .cons a b => by
    obtain ⟨h1, h2⟩ := kv_split b
    exact ⟨.cons a.2 h1, by simp [a.1, h2]⟩
theorem pairs_vals {P : Program} {w : World} : ∀ {es : List DictEntry} {kvs : List (Key × Value)}, Pairs (mixKind P w) es kvs → es.map (·.val) = kvs.map (·.2)
  | _, _, h => by
    induction h with
    | nil => rfl
    | cons a b _ ih => simp [ih, b]
theorem dict_data {f : MV → Option PyData} : ∀ {kvs : List (Key × MV)} {ds : List (PyData × PyData)}, kvs.mapM (fun p => (f p.2).map fun d => (keyD p.1, d)) = some ds →
    (kvs.map (·.2)).mapM f = some (ds.map (·.2)) ∧ ds.map (·.1) = kvs.map (fun p => keyD p.1)
  | [], _, e => by cases e; exact ⟨rfl, rfl⟩
  | k :: kvs, _, e => by
    obtain ⟨y, r, a, b, rfl⟩ := mapM_cons_some e
    simp only [Option.map_eq_some_iff] at a
    obtain ⟨q, a, rfl⟩ := a
    obtain ⟨h1, h2⟩ := dict_data b
    exact ⟨by simp [List.mapM_cons, a, h1], by simp [h2]⟩

mutual
theorem reads_of (C : CtxOk X) (I : Inv X pins σ H s) (S : SimW ρ X.K W H) : ∀ (g : Nat) (v : MV) (x : V) (u : Value) (d : PyData), toD g W v = some d → RelM ρ X.K H v x → RelV x u → ∃ as, Reads s.heap u d as ∧ sysModules ∉ as
  | g, .non, _, _, _, e, r, rv => by
    unfold RelM at r; subst r; cases rv
    cases g <;> (simp only [toD] at e; cases e; exact ⟨_, .none, by simp⟩)
  | g, .bl b, _, _, _, e, r, rv => by
    unfold RelM at r; subst r; cases rv
    cases g <;> (simp only [toD] at e; cases e; exact ⟨_, .bool b, by simp⟩)
  | g, .int i, _, _, _, e, r, rv => by
    unfold RelM at r; subst r; obtain ⟨t, rfl⟩ := rv
    cases g <;> (simp only [toD] at e; cases e; exact ⟨_, .int i t, by simp⟩)
  | g, .str z, _, _, _, e, r, rv => by
    unfold RelM at r; subst r; obtain ⟨t, rfl⟩ := rv
    cases g <;> (simp only [toD] at e; cases e; exact ⟨_, .str z t, by simp⟩)
  | 0, .tup _, _, _, _, e, _, _ => by simp [toD] at e
  | 0, .ref _, _, _, _, e, _, _ => by simp [toD] at e
  | _, .cls _, _, _, _, e, _, _ => by simp [toD] at e
  | _, .ty _, _, _, _, e, _, _ => by simp [toD] at e
  | g + 1, .tup xs, _, _, d, e, r, rv => by
    unfold RelM at r
    obtain ⟨p, vs, rfl, hs, rs⟩ := r
    cases rv
    simp only [toD, Option.map_eq_some_iff] at e
    obtain ⟨ds, e, rfl⟩ := e
    obtain ⟨its, rv, ⟨o, ho, hc, n, hd⟩, _⟩ := I.tuple hs
    obtain ⟨as, hr, hn⟩ := reads_all C I S g xs vs its ds e rs rv
    exact ⟨_, Reads.tuple ho hc hd hr, hn⟩
  | g + 1, .ref n, _, _, d, e, r, rv => by
    unfold RelM at r
    obtain ⟨p, rfl, ep⟩ := r
    cases rv
    have nsys : ∀ {o : Obj}, s.heap.get? p = some o → o.cls = .type "list" → sysModules ≠ p := by
      intro o e1 e2 z
      obtain ⟨q, k1, k2⟩ := C.sys
      have := I.kIn _ _ k1
      rw [z, e1] at this
      cases this
      rw [e2] at k2; exact absurd k2 (by decide)
    simp only [toD] at e
    split at e
    · next xs e1 =>
      simp only [Option.map_eq_some_iff] at e
      obtain ⟨ds, e, rfl⟩ := e
      obtain ⟨vs, hp, rs⟩ := S.lst e1 ep
      obtain ⟨its, rv, ⟨o, m, ho, hc, _, hd⟩, _⟩ := I.list (SqL.of hp)
      obtain ⟨as, hr, hn⟩ := reads_all C I S g xs vs its ds e rs rv
      exact ⟨_, Reads.list ho hc hd hr, by simp only [List.mem_cons, not_or]; exact ⟨nsys ho hc, hn⟩⟩
    · next xs e1 =>
      simp only [Option.map_eq_some_iff] at e
      obtain ⟨ds, e, rfl⟩ := e
      obtain ⟨vs, hp, rs⟩ := S.rdl e1 ep
      obtain ⟨its, rv, ⟨o, m, ho, hc, _, hd⟩, _⟩ := I.list hp
      obtain ⟨as, hr, hn⟩ := reads_all C I S g xs vs its ds e rs rv
      exact ⟨_, Reads.list ho hc hd hr, by simp only [List.mem_cons, not_or]; exact ⟨nsys ho hc, hn⟩⟩
    · next kvs e1 =>
      simp only [Option.map_eq_some_iff] at e
      obtain ⟨ds, e, rfl⟩ := e
      obtain ⟨gs, hp, rk⟩ := S.cell n p _ e1 ep
      obtain ⟨_, hS, ws, kv, o, es, m, ho, hx, hd, hk, hpr, _⟩ := (show ObjOk X.prog X.w H s.heap p (.dK gs) from I.hok p _ hp)
      have rvs := kv_split kv
      have hval := pairs_vals hpr
      obtain ⟨hds, hdk⟩ := dict_data e
      obtain ⟨bs, hr, hn⟩ := reads_all C I S g (kvs.map (·.2)) _ _ _ hds rk.2 rvs.1
      have hkeys : ds.map (·.1) = ws.map (fun p => keyD p.1) := by
        rw [hdk]
        have : kvs.map (fun p => keyD p.1) = (kvs.map (·.1)).map keyD := by simp
        rw [this, rk.1, rvs.2]; simp
      refine ⟨_, Reads.dict ho hx.1 hd (as := []) (by rw [hkeys]; exact keys_reads _ hpr) (by rw [hval]; exact hr), ?_⟩
      simp only [List.cons_append, List.nil_append, List.mem_cons, not_or]
      exact ⟨fun z => by rw [z] at hS; simp at hS, hn⟩
    · cases e
theorem reads_all (C : CtxOk X) (I : Inv X pins σ H s) (S : SimW ρ X.K W H) : ∀ (g : Nat) (vs : List MV) (xs : List V) (us : List Value) (ds : List PyData), vs.mapM (toD g W) = some ds → RelMs ρ X.K H vs xs → Vals xs us → ∃ as, ReadsAll s.heap us ds as ∧ sysModules ∉ as
  | g, [], _, _, _, e, r, rv => by
    unfold RelMs at r; subst r; cases rv; cases e
    exact ⟨_, .nil, by simp⟩
  | g, v :: vs, _, _, _, e, r, rv => by
    obtain ⟨x, xs, rfl, r1, r2⟩ := r.uncons
    obtain ⟨y, rr, e1, e2, rfl⟩ := mapM_cons_some e
    cases rv with
    | cons rv1 rv2 =>
      obtain ⟨as, a1, a2⟩ := reads_of C I S g v x _ y e1 r1 rv1
      obtain ⟨bs, b1, b2⟩ := reads_all C I S g vs xs _ rr e2 r2 rv2
      exact ⟨_, .cons a1 b1, by simp [a2, b2]⟩
end
end
end Mir
set_option Elab.async false
set_option linter.all false
set_option maxRecDepth 100000
set_option maxHeartbeats 4000000
/-! MOps2: operators, comparisons, places, slices. -/
namespace Mir
open PySem L2
section
variable {X : Cx} {ρ : List Addr} {H : Hp} {W : Wd}
theorem op_no (f : Value → Value → Sem Value) : OpR X f (fun _ _ _ _ => False) := fun _ _ _ _ _ _ _ _ _ _ _ _ h => h.elim
/-- a rule for two values -/
def Bin (X : Cx) (f : Value → Value → Sem Value) (v u : MV) (W : Wd) (m : Res MV) : Prop :=
  ∃ r, OpR X f r ∧ ∀ ρ H x y Q, SimW ρ X.K W H → RelM ρ X.K H v x → RelM ρ X.K H u y → PostP ρ X.K H Q m → r x y H Q
theorem Bin.no {f : Value → Value → Sem Value} {v u : MV} : Bin X f v u W .bad := ⟨_, op_no f, fun _ _ _ _ _ _ _ _ p => p⟩

theorem add_ok (v u : MV) (W : Wd) : Bin X (binaryOp .Add) v u W (addM v u W) := by
  unfold addM
  split
  · next i j => exact ⟨_, op_add, fun ρ H x y Q S r1 r2 p => by
      unfold RelM at r1 r2; subst r1 r2
      exact ⟨i, j, rfl, rfl, p.here S (by unfold RelM; rfl)⟩⟩
  · next a b =>
    split
    · next h => exact ⟨_, op_add_str, fun ρ H x y Q S r1 r2 p => by
        unfold RelM at r1 r2; subst r1 r2
        exact ⟨a, b, rfl, rfl, h, p.here S (by unfold RelM; rfl)⟩⟩
    · exact .no
  · next l m =>
    split
    · next xs ys e1 e2 =>
      split
      · next h => exact ⟨_, op_cat, fun ρ H x y Q S r1 r2 p => by
          unfold RelM at r1 r2
          obtain ⟨a, rfl, ea⟩ := r1
          obtain ⟨b, rfl, eb⟩ := r2
          obtain ⟨vs, h1, q1⟩ := S.lst e1 ea
          obtain ⟨us, h2, q2⟩ := S.lst e2 eb
          exact ⟨a, b, vs, us, rfl, rfl, h1, h2, by rw [← q1.length, ← q2.length]; exact h, fun c hc => p.newL S (q1.append q2) hc⟩⟩
      · exact .no
    · exact .no
  · next a b =>
    split
    · next h => exact ⟨_, op_catA, fun ρ H x y Q S r1 r2 p => by
        unfold RelM at r1 r2
        obtain ⟨c, vs, rfl, s1, q1⟩ := r1
        obtain ⟨d, us, rfl, s2, q2⟩ := r2
        have q3 := q1.append q2
        refine ⟨c, d, vs, us, rfl, rfl, s1, s2, by rw [← q1.length, ← q2.length]; exact h, fun z => ?_, fun _ z => ?_, fun _ _ f hf => ?_⟩
        · subst z
          exact p.here S (by unfold RelM; exact ⟨d, us, rfl, s2, q3⟩)
        · subst z
          exact p.here S (by unfold RelM; exact ⟨c, vs, rfl, s1, by simpa using q3⟩)
        · have U : Up ρ H ρ (upd H f (.tup (vs ++ us))) := Up.fresh0 hf
          refine p ρ _ _ U (S.fresh0 hf) ?_
          unfold RelM
          exact ⟨f, vs ++ us, rfl, .inl (.inl upd_same), q3.up U⟩⟩
    · exact .no
  · exact .no
theorem sub_ok (v u : MV) (W : Wd) : Bin X (binaryOp .Sub) v u W (subM v u W) := by
  unfold subM
  split
  · next i j => exact ⟨_, op_sub, fun ρ H x y Q S r1 r2 p => by
      unfold RelM at r1 r2; subst r1 r2
      exact ⟨i, j, rfl, rfl, p.here S (by unfold RelM; rfl)⟩⟩
  · exact .no
theorem mulStr_ok {s : Str} {n : Int} (h : 0 ≤ n ∧ n ≤ 1000000 ∧ s.length * n.toNat ≤ 10000000) : MulOk s n := by
  obtain ⟨h0, h1, h2⟩ := h
  refine ⟨?_, fun h3 _ => ?_, fun h3 _ => ?_⟩
  · simp only [Bool.or_eq_false_iff, decide_eq_false_iff_not]
    omega
  · have h4 : ((10000000 : Nat) : Int) ≤ (2 ^ 63 - 1) / n := by
      rw [Int.le_ediv_iff_mul_le (by omega)]
      have : (2 ^ 63 - 1 : Int) = 9223372036854775807 := by decide
      omega
    have h5 : s.length ≤ s.length * n.toNat := Nat.le_mul_of_pos_right _ (by omega)
    omega
  · have e : sizeLine = 16777216 := sizeLine_eq
    unfold Builtin.Str.tooLong
    rw [e]
    simp only [decide_eq_false_iff_not]
    omega
theorem op_mul_str : OpR X (binaryOp .Mult) (fun x y H Q => ∃ s n, x = .str s ∧ y = .int n ∧ MulOk s n ∧ Q (.str (Txt.mul s n)) H) := by
  intro pins s σ H x y v u Q I rx ry h
  obtain ⟨z, n, rfl, rfl, hm, q⟩ := h
  obtain ⟨t, rfl⟩ := rx
  obtain ⟨t', rfl⟩ := ry
  exact SB.mul hm fun t2 k => ⟨.str _, H, I.tok _, ⟨_, rfl⟩, q⟩
theorem mul_ok (v u : MV) (W : Wd) : Bin X (binaryOp .Mult) v u W (mulM v u W) := by
  unfold mulM
  split
  · next i j =>
    split
    · next h => exact ⟨_, op_mul, fun ρ H x y Q S r1 r2 p => by
        unfold RelM at r1 r2; subst r1 r2
        refine ⟨i, j, rfl, rfl, ?_, p.here S (by unfold RelM; rfl)⟩
        simp only [mulOkB, Bool.or_eq_true, Bool.and_eq_true, decide_eq_true_eq] at h
        exact h⟩
    · split
      · next h => exact ⟨_, op_mulW, fun ρ H x y Q S r1 r2 p => by
          unfold RelM at r1 r2; subst r1 r2
          exact ⟨i, j, rfl, rfl, h, p.here S (by unfold RelM; rfl)⟩⟩
      · exact .no
  · next s n =>
    split
    · next h => exact ⟨_, op_mul_str, fun ρ H x y Q S r1 r2 p => by
        unfold RelM at r1 r2; subst r1 r2
        exact ⟨s, n, rfl, rfl, mulStr_ok h, p.here S (by unfold RelM; rfl)⟩⟩
    · exact .no
  · next l k =>
    split
    · next xs e1 =>
      split
      · next h => exact ⟨_, op_rep, fun ρ H x y Q S r1 r2 p => by
          unfold RelM at r1 r2; subst r2
          obtain ⟨a, rfl, ea⟩ := r1
          obtain ⟨vs, h1, q1⟩ := S.lst e1 ea
          refine ⟨a, k, vs, rfl, rfl, h1, h.1, h.2.1, by rw [← q1.length]; exact h.2.2, fun c hc => ?_⟩
          have rep : ∀ m : Nat, RelMs ρ X.K H (List.replicate m xs).flatten (List.replicate m vs).flatten := by
            intro m
            induction m with
            | zero => exact .nil
            | succ m ih => simp only [List.replicate_succ, List.flatten_cons]; exact q1.append ih
          exact p.newL S (rep _) hc⟩
      · exact .no
    · exact .no
  · exact .no
theorem mod_ok (v u : MV) (W : Wd) : Bin X (binaryOp .Mod) v u W (modM v u W) := by
  unfold modM
  split
  · next i j =>
    split
    · next h => exact ⟨_, op_mod, fun ρ H x y Q S r1 r2 p => by
        unfold RelM at r1 r2; subst r1 r2
        exact ⟨i, j, rfl, rfl, h, p.here S (by unfold RelM; rfl)⟩⟩
    · exact .no
  · exact .no
theorem fdiv_ok (v u : MV) (W : Wd) : Bin X (binaryOp .FloorDiv) v u W (fdivM v u W) := by
  unfold fdivM
  split
  · next i j =>
    split
    · next h => exact ⟨_, op_fdivW, fun ρ H x y Q S r1 r2 p => by
        unfold RelM at r1 r2; subst r1 r2
        exact ⟨i, j, rfl, rfl, h, p.here S (by unfold RelM; rfl)⟩⟩
    · exact .no
  · exact .no
theorem pow_ok (v u : MV) (W : Wd) : Bin X (binaryOp .Pow) v u W (powM v u W) := by
  unfold powM
  split
  · next i j =>
    split
    · next h => exact ⟨_, op_pow, fun ρ H x y Q S r1 r2 p => by
        unfold RelM at r1 r2; subst r1 r2
        exact ⟨i, j, rfl, rfl, h, p.here S (by unfold RelM; rfl)⟩⟩
    · exact .no
  · exact .no
theorem bin_ok (op : Operator) (v u : MV) (W : Wd) : Bin X (binaryOp op) v u W (binM op v u W) := by
  cases op
  case Add => exact add_ok v u W
  case Sub => exact sub_ok v u W
  case Mult => exact mul_ok v u W
  case Mod => exact mod_ok v u W
  case FloorDiv => exact fdiv_ok v u W
  case Pow => exact pow_ok v u W
  all_goals exact .no

/-! ### comparisons -/
theorem op_eqR (C : CtxOk X) (v u : MV) (W : Wd) (d e : PyData) (h1 : toD deepest W v = some d) (h2 : toD deepest W u = some e) (s1 : SeqAt.shaped d = true) (s2 : SeqAt.shaped e = true) :
    OpR X (compareOp .Eq) (fun x y H Q => ∃ ρ, SimW ρ X.K W H ∧ RelM ρ X.K H v x ∧ RelM ρ X.K H u y ∧ Q (.bl (PyData.eqv d e)) H) := by
  intro pins s σ H x y a b Q I rx ry ⟨ρ, S, r1, r2, q⟩
  obtain ⟨as, q1, _⟩ := reads_of C I S _ _ _ _ _ h1 r1 rx
  obtain ⟨bs, q2, _⟩ := reads_of C I S _ _ _ _ _ h2 r2 ry
  have hu := C.un
  exact SeqAt.compareEq_shaped q1 q2 s1 s2 (by omega) ⟨.bl _, H, I, rfl, q⟩
theorem op_neR (C : CtxOk X) (v u : MV) (W : Wd) (d e : PyData) (h1 : toD deepest W v = some d) (h2 : toD deepest W u = some e) (s1 : SeqAt.shaped d = true) (s2 : SeqAt.shaped e = true) :
    OpR X (compareOp .NotEq) (fun x y H Q => ∃ ρ, SimW ρ X.K W H ∧ RelM ρ X.K H v x ∧ RelM ρ X.K H u y ∧ Q (.bl (!PyData.eqv d e)) H) := by
  intro pins s σ H x y a b Q I rx ry ⟨ρ, S, r1, r2, q⟩
  obtain ⟨as, q1, _⟩ := reads_of C I S _ _ _ _ _ h1 r1 rx
  obtain ⟨bs, q2, _⟩ := reads_of C I S _ _ _ _ _ h2 r2 ry
  have hu := C.un
  exact SeqAt.compareNe_shaped q1 q2 s1 s2 (by omega) ⟨.bl _, H, I, rfl, q⟩
theorem non_iff {K : PySem.W.Frag} {a : MV} {x : V} (r : RelM ρ K H a x) : decide (x = V.non) = isNon a := by
  cases a <;> unfold RelM at r
  case tup => obtain ⟨p, vs, rfl, _⟩ := r; rfl
  case ref => obtain ⟨p, rfl, _⟩ := r; rfl
  all_goals (subst r; rfl)
theorem cmp_ok (C : CtxOk X) (op : CmpOp) (v u : MV) (W : Wd) : Bin X (compareOp op) v u W (cmpM op v u W) := by
  unfold cmpM
  split
  · unfold eqM
    split
    · next a b => exact ⟨_, op_eq, fun ρ H x y Q S r1 r2 p => by
        unfold RelM at r1 r2; subst r1 r2
        have e : decide (V.str a = V.str b) = decide (a = b) := by simp
        exact ⟨rfl, by rw [e]; exact p.here S (by unfold RelM; rfl)⟩⟩
    · dsimp only
      split
      · next d e h1 h2 =>
        split
        · next h => exact ⟨_, op_eqR C _ _ W d e h1 h2 h.1 h.2, fun ρ H x y Q S r1 r2 p => ⟨ρ, S, r1, r2, p.here S (by unfold RelM; rfl)⟩⟩
        · exact .no
      · exact .no
  · unfold neM
    split
    · next a b => exact ⟨_, op_ne, fun ρ H x y Q S r1 r2 p => by
        unfold RelM at r1 r2; subst r1 r2
        have e : decide (V.str a = V.str b) = decide (a = b) := by simp
        exact ⟨rfl, by rw [e]; exact p.here S (by unfold RelM; rfl)⟩⟩
    · dsimp only
      split
      · next d e h1 h2 =>
        split
        · next h => exact ⟨_, op_neR C _ _ W d e h1 h2 h.1 h.2, fun ρ H x y Q S r1 r2 p => ⟨ρ, S, r1, r2, p.here S (by unfold RelM; rfl)⟩⟩
        · exact .no
      · exact .no
  · next i j => exact ⟨_, op_lt, fun ρ H x y Q S r1 r2 p => by
      unfold RelM at r1 r2; subst r1 r2
      exact ⟨i, j, rfl, rfl, p.here S (by unfold RelM; rfl)⟩⟩
  · next i j => exact ⟨_, op_le, fun ρ H x y Q S r1 r2 p => by
      unfold RelM at r1 r2; subst r1 r2
      exact ⟨i, j, rfl, rfl, p.here S (by unfold RelM; rfl)⟩⟩
  · next i j => exact ⟨_, op_gt, fun ρ H x y Q S r1 r2 p => by
      unfold RelM at r1 r2; subst r1 r2
      exact ⟨i, j, rfl, rfl, p.here S (by unfold RelM; rfl)⟩⟩
  · next i j => exact ⟨_, op_ge, fun ρ H x y Q S r1 r2 p => by
      unfold RelM at r1 r2; subst r1 r2
      exact ⟨i, j, rfl, rfl, p.here S (by unfold RelM; rfl)⟩⟩
  · next a b => exact ⟨_, op_lt_str, fun ρ H x y Q S r1 r2 p => by
      unfold RelM at r1 r2; subst r1 r2
      exact ⟨a, b, rfl, rfl, p.here S (by unfold RelM; rfl)⟩⟩
  · next a b => exact ⟨_, op_le_str, fun ρ H x y Q S r1 r2 p => by
      unfold RelM at r1 r2; subst r1 r2
      exact ⟨a, b, rfl, rfl, p.here S (by unfold RelM strLt; rfl)⟩⟩
  · next a b =>
    split
    · next h => exact ⟨_, op_in_sign, fun ρ H y z Q S r1 r2 p => by
        unfold RelM at r1 r2; subst r1 r2
        have ea : a = ⟨#[a.cps.toList.headD 0]⟩ := by
          obtain ⟨⟨l⟩⟩ := a
          match l, h with
          | [x], _ => rfl
        exact ⟨a.cps.toList.headD 0, b, by rw [← ea], rfl, p.here S (by unfold RelM; rfl)⟩⟩
    · exact .no
  · next a b =>
    split
    · next h => exact ⟨_, op_notIn_sign, fun ρ H y z Q S r1 r2 p => by
        unfold RelM at r1 r2; subst r1 r2
        have ea : a = ⟨#[a.cps.toList.headD 0]⟩ := by
          obtain ⟨⟨l⟩⟩ := a
          match l, h with
          | [x], _ => rfl
        exact ⟨a.cps.toList.headD 0, b, by rw [← ea], rfl, p.here S (by unfold RelM; rfl)⟩⟩
    · exact .no
  · next a => exact ⟨_, op_isN, fun ρ H x y Q S r1 r2 p => by
      have r3 := non_iff r1
      unfold RelM at r2; subst r2
      exact ⟨rfl, by rw [r3]; exact p.here S (by unfold RelM; rfl)⟩⟩
  · next a => exact ⟨_, op_notN, fun ρ H x y Q S r1 r2 p => by
      have r3 := non_iff r1
      unfold RelM at r2; subst r2
      exact ⟨rfl, by rw [r3]; exact p.here S (by unfold RelM; rfl)⟩⟩
  · exact .no

/-! ### places -/
theorem ix_no : IxR X (fun _ _ _ _ => False) := fun _ _ _ _ _ _ _ _ _ _ _ _ _ _ h _ => False.elim h
theorem atI_map {α β : Type} {f : α → β} {xs : List α} {i : Int} {v : α} (h : atI xs i = some v) : ∃ j, ixN xs.length i = some j ∧ xs[j]? = some v := by
  unfold atI at h
  cases e : ixN xs.length i with
  | none => rw [e] at h; cases h
  | some j => rw [e] at h; exact ⟨j, rfl, h⟩
theorem RelMs.atI {K : PySem.W.Frag} {xs : List MV} {vs : List V} {i : Int} {v : MV} (r : RelMs ρ K H xs vs) (h : atI xs i = some v) : ∃ u, atI vs i = some u ∧ RelM ρ K H v u := by
  obtain ⟨j, h1, h2⟩ := atI_map (f := id) h
  obtain ⟨u, h3, h4⟩ := r.get h2
  refine ⟨u, ?_, h4⟩
  unfold L2.atI
  rw [← r.length, h1]
  exact h3
theorem idx_ok (v u : MV) (W : Wd) : ∃ r, IxR X r ∧ ∀ ρ H x y Q, SimW ρ X.K W H → RelM ρ X.K H v x → RelM ρ X.K H u y → PostP ρ X.K H Q (idxM v u W) → r x y H Q := by
  unfold idxM
  split
  · next xs i => exact ⟨_, ix_tup, fun ρ H x y Q S r1 r2 p => by
      unfold RelM at r1 r2; subst r2
      obtain ⟨c, vs, rfl, s1, q1⟩ := r1
      split at p
      · next w e =>
        obtain ⟨u, e1, e2⟩ := q1.atI e
        exact ⟨c, vs, i, u, rfl, rfl, s1, e1, p.here S e2⟩
      · exact p.elim⟩
  · next s i => exact ⟨_, ix_str, fun ρ H x y Q S r1 r2 p => by
      unfold RelM at r1 r2; subst r1 r2
      split at p
      · next hz =>
        split at p
        · next c e => exact ⟨s, i, c, rfl, rfl, hz, e, p.here S (by unfold RelM; rfl)⟩
        · exact p.elim
      · exact p.elim⟩
  · next n i => exact ⟨_, ix_list, fun ρ H x y Q S r1 r2 p => by
      unfold RelM at r1 r2; subst r2
      obtain ⟨c, rfl, ec⟩ := r1
      split at p
      · next xs e1 =>
        obtain ⟨vs, h1, q1⟩ := S.lst e1 ec
        split at p
        · next w e =>
          obtain ⟨u, e1, e2⟩ := q1.atI e
          exact ⟨c, vs, i, u, rfl, rfl, SqL.of h1, e1, p.here S e2⟩
        · exact p.elim
      · next xs e1 =>
        obtain ⟨vs, h1, q1⟩ := S.rdl e1 ec
        split at p
        · next w e =>
          obtain ⟨u, e1, e2⟩ := q1.atI e
          exact ⟨c, vs, i, u, rfl, rfl, h1, e1, p.here S e2⟩
        · exact p.elim
      · exact p.elim⟩
  · exact ⟨_, ix_no, fun _ _ _ _ _ _ _ _ p => p⟩
theorem sl_no : SlR X (fun _ _ _ _ _ => False) := fun _ _ _ _ _ _ _ _ _ _ _ _ _ _ _ _ _ h => False.elim h
theorem slc_ok (lo hi : Option Int) (v : MV) (W : Wd) : ∃ r, SlR X r ∧ ∀ ρ H x Q, SimW ρ X.K W H → RelM ρ X.K H v x → PostP ρ X.K H Q (slcM lo hi v W) → r x lo hi H Q := by
  unfold slcM
  split
  · next s =>
    split
    · next h => exact ⟨_, sl_str, fun ρ H x Q S r1 p => by
        unfold RelM at r1; subst r1
        exact ⟨s, rfl, h, p.here S (by unfold RelM; rfl)⟩⟩
    · exact ⟨_, sl_no, fun _ _ _ _ _ _ p => p⟩
  · next xs => exact ⟨_, sl_tupA, fun ρ H x Q S r1 p => by
      unfold RelM at r1
      obtain ⟨c, vs, rfl, s1, q1⟩ := r1
      have hl := q1.length
      refine ⟨c, vs, rfl, s1, fun hw => p.here S ?_, fun hw d hd => ?_⟩
      · unfold RelM
        refine ⟨c, vs, rfl, s1, ?_⟩
        have e : cutL xs lo hi = xs := by
          unfold cutL
          rw [hl, hw.1, hw.2, List.drop_zero, Nat.sub_zero, ← hl, List.take_length]
        rw [e]; exact q1
      · have U : Up ρ H ρ (upd H d (.tup (cutV vs lo hi))) := Up.fresh0 hd
        refine p ρ _ _ U (S.fresh0 hd) ?_
        unfold RelM
        refine ⟨d, cutV vs lo hi, rfl, .inl (.inl upd_same), ?_⟩
        unfold cutL cutV
        rw [hl]
        exact ((q1.drop _).take _).up U⟩
  · next n => exact ⟨_, sl_list, fun ρ H x Q S r1 p => by
      unfold RelM at r1
      obtain ⟨c, rfl, ec⟩ := r1
      have go : ∀ (xs : List MV) (vs : List V), RelMs ρ X.K H xs vs → PostP ρ X.K H Q (alloc (.lst (cutL xs lo hi)) W) → SqL X.K H c vs → rSlL X.K (.ref c) lo hi H Q := fun xs vs q1 p h1 => by
        refine ⟨c, vs, rfl, h1, fun d hd => p.newL S ?_ hd⟩
        unfold cutL cutV
        rw [q1.length]
        exact (q1.drop _).take _
      split at p
      · next xs e1 =>
        obtain ⟨vs, h1, q1⟩ := S.lst e1 ec
        exact go xs vs q1 p (SqL.of h1)
      · next xs e1 =>
        obtain ⟨vs, h1, q1⟩ := S.rdl e1 ec
        exact go xs vs q1 p h1
      · exact p.elim⟩
  · exact ⟨_, sl_no, fun _ _ _ _ _ _ p => p⟩
end
end Mir
set_option Elab.async false
set_option linter.all false
set_option maxRecDepth 100000
set_option maxHeartbeats 4000000
/-! MBi: built-in functions and methods. -/
namespace Mir
open PySem L2
section
variable {X : Cx} {ρ : List Addr} {H : Hp} {W : Wd} {K : PySem.W.Frag}
theorem ints_rel : ∀ {xs : List MV} {vs : List V} {ns : List Int}, intsOf xs = some ns → RelMs ρ K H xs vs → vs = ns.map V.int
  | [], _, _, e, r => by unfold RelMs at r; subst r; cases e; rfl
  | x :: xs, _, ns, e, r => by
    obtain ⟨v, t, rfl, r1, r2⟩ := r.uncons
    cases x with
    | int i =>
      simp only [intsOf, Option.map_eq_some_iff] at e
      obtain ⟨ms, e, rfl⟩ := e
      unfold RelM at r1; subst r1
      rw [ints_rel e r2]; rfl
    | _ => simp [intsOf] at e
theorem bools_rel : ∀ {xs : List MV} {vs : List V} {ns : List Bool}, boolsOf xs = some ns → RelMs ρ K H xs vs → vs = ns.map V.bl
  | [], _, _, e, r => by unfold RelMs at r; subst r; cases e; rfl
  | x :: xs, _, ns, e, r => by
    obtain ⟨v, t, rfl, r1, r2⟩ := r.uncons
    cases x with
    | bl i =>
      simp only [boolsOf, Option.map_eq_some_iff] at e
      obtain ⟨ms, e, rfl⟩ := e
      unfold RelM at r1; subst r1
      rw [bools_rel e r2]; rfl
    | _ => simp [boolsOf] at e
theorem strs_rel : ∀ {xs : List MV} {vs : List V} {ns : List Str}, strsOf xs = some ns → RelMs ρ K H xs vs → vs = ns.map V.str
  | [], _, _, e, r => by unfold RelMs at r; subst r; cases e; rfl
  | x :: xs, _, ns, e, r => by
    obtain ⟨v, t, rfl, r1, r2⟩ := r.uncons
    cases x with
    | str i =>
      simp only [strsOf, Option.map_eq_some_iff] at e
      obtain ⟨ms, e, rfl⟩ := e
      unfold RelM at r1; subst r1
      rw [strs_rel e r2]; rfl
    | _ => simp [strsOf] at e
theorem relMs1 {v : MV} {xs : List V} (r : RelMs ρ K H [v] xs) : ∃ x, xs = [x] ∧ RelM ρ K H v x := r.one
theorem relMs2 {v u : MV} {xs : List V} (r : RelMs ρ K H [v, u] xs) : ∃ x y, xs = [x, y] ∧ RelM ρ K H v x ∧ RelM ρ K H u y := by
  obtain ⟨x, t, rfl, r1, r2⟩ := r.uncons
  obtain ⟨y, rfl, r3⟩ := r2.one
  exact ⟨x, y, rfl, r1, r3⟩
/-- a built-in as a value -/
def biV : Bi → Value
  | .len => .builtin "len"
  | .abs => .builtin "abs"
  | .min2 => .builtin "min"
  | .max2 => .builtin "max"
  | .sum => .builtin "sum"
  | .int => .type "int"
  | .repr => .builtin "repr"
  | .all => .builtin "all"
  | .list => .type "list"
  | .tuple => .type "tuple"
  | .str => .type "str"
  | .sorted => .builtin "sorted"
theorem sorted_eq {ns ms : List Int} (hp : ms.Perm ns) (hs : ms.Pairwise (· ≤ ·)) : ms = ns.mergeSort (fun a b => decide (a ≤ b)) := by
  have h1 : (ns.mergeSort (fun a b => decide (a ≤ b))).Pairwise (· ≤ ·) := by
    have h := List.pairwise_mergeSort (le := fun a b : Int => decide (a ≤ b)) (fun a b c h1 h2 => by simp only [decide_eq_true_eq] at h1 h2 ⊢; omega) (fun a b => by simp only [Bool.or_eq_true, decide_eq_true_eq]; omega) ns
    exact h.imp fun h => of_decide_eq_true h
  exact List.Perm.eq_of_pairwise (fun a b _ _ h1 h2 => Int.le_antisymm h1 h2) hs h1 (hp.trans (List.mergeSort_perm ns _).symm)
theorem call_no (f : Value) : CallR X f (fun _ _ _ => False) := fun _ _ _ _ _ _ _ _ _ h => h.elim
def Cal (X : Cx) (f : Value) (vs : List MV) (W : Wd) (m : Res MV) : Prop :=
  ∃ r, CallR X f r ∧ ∀ ρ H xs Q, SimW ρ X.K W H → RelMs ρ X.K H vs xs → PostP ρ X.K H Q m → r xs H Q
theorem Cal.no {f : Value} {vs : List MV} : Cal X f vs W .bad := ⟨_, call_no f, fun _ _ _ _ _ _ p => p⟩
/-- what itemsM leaves -/
theorem items_keep {v : MV} {xs : List MV} {W1 : Wd} (e : itemsM v W = .ok xs W1) : W1 = W := by
  cases v with
  | ref n =>
    simp only [itemsM] at e
    split at e
    · cases e; rfl
    · cases e; rfl
    · cases e
  | _ => cases e
theorem Cal.items {f : Value} {v : MV} {g : List MV → M MV} (h : ∀ xs, itemsM v W = .ok xs W → Cal X f [v] W (g xs W)) : Cal X f [v] W (bnd (itemsM v) g W) := by
  unfold bnd
  split
  · next xs W1 e => have := items_keep e; subst this; exact h xs e
  · next e W1 h => exact .no
  · exact .no
theorem call_len_any : CallR X (.builtin "len") (fun xs H Q => ∃ x n, xs = [x] ∧ LenV X.K x H n ∧ Q (.int n) H) := call_len
theorem call_reprR (C : CtxOk X) (v : MV) (W : Wd) (d : PyData) (h1 : toD deepest W v = some d) (h2 : d.showable = true) (h3 : d.shown.length ≤ sizeLine) (h4 : d.depth ≤ 60) :
    CallR X (.builtin "repr") (fun xs H Q => ∃ x ρ, xs = [x] ∧ SimW ρ X.K W H ∧ RelM ρ X.K H v x ∧ Q (.str d.shown) H) := by
  intro pins s σ H xs us Q I r ⟨x, ρ, ex, S, rm, q⟩
  subst ex
  obtain ⟨u, rfl, ru⟩ := vals1 r
  obtain ⟨as, rd, hn⟩ := reads_of C I S _ _ _ _ _ h1 rm ru
  have hu := C.un
  have hz : X.A.units + 2 < cLine := by omega
  cases rd with
  | none => exact PySem.P.repr_of_none ⟨.str _, H, I.tok _, ⟨_, rfl⟩, q⟩
  | bool b => exact PySem.P.repr_of_bool ⟨.str _, H, I.tok _, ⟨_, rfl⟩, q⟩
  | int i t =>
    have h5 : i.natAbs.log2 < 1920 := by simpa [PyData.showable] using h2
    exact PySem.P.repr_of_int h5 ⟨.str _, H, I.tok _, ⟨_, rfl⟩, q⟩
  | str x t => exact PySem.P.repr_of_str ⟨.str _, H, I.tok _, ⟨_, rfl⟩, q⟩ h3
  | list a1 a2 a3 a4 => exact repr_of_reads' (.list a1 a2 a3 a4) h2 (fun _ => hn) C.gd (by omega) (fun _ _ e => e) (fun h' u tk hk => ⟨.str _, H, I.kept hk, ⟨_, rfl⟩, q⟩) h3
  | tuple a1 a2 a3 a4 => exact repr_of_reads' (.tuple a1 a2 a3 a4) h2 (fun _ => hn) C.gd (by omega) (fun _ _ e => e) (fun h' u tk hk => ⟨.str _, H, I.kept hk, ⟨_, rfl⟩, q⟩) h3
  | dict a1 a2 a3 a4 a5 => exact repr_of_reads' (.dict a1 a2 a3 a4 a5) h2 (fun _ => hn) C.gd (by omega) (fun _ _ e => e) (fun h' u tk hk => ⟨.str _, H, I.kept hk, ⟨_, rfl⟩, q⟩) h3
theorem bi_ok (C : CtxOk X) (b : Bi) (vs : List MV) (W : Wd) : Cal X (biV b) vs W (biM b vs W) := by
  unfold biM
  split
  · next s =>
    split
    · next h => exact ⟨_, call_len_str, fun ρ H xs Q S rr p => by
        obtain ⟨x, rfl, r⟩ := rr.one
        unfold RelM at r; subst r
        exact ⟨s, rfl, h, p.here S (by unfold RelM; rfl)⟩⟩
    · exact .no
  · next ys => exact ⟨_, call_len_seq, fun ρ H xs Q S rr p => by
      obtain ⟨x, rfl, r⟩ := rr.one
      unfold RelM at r
      obtain ⟨c, vs, rfl, s1, q1⟩ := r
      exact ⟨c, vs, rfl, .inr s1, by rw [← q1.length]; exact p.here S (by unfold RelM; rfl)⟩⟩
  · next v _ _ => exact Cal.items fun ys e => ⟨_, call_len_seq, fun ρ H xs Q S rr p => by
      obtain ⟨x, rfl, r⟩ := rr.one
      obtain ⟨_, c, vs, rfl, s1, q1⟩ := items_ok S r e
      exact ⟨c, vs, rfl, .inl s1, by rw [← q1.length]; exact p.here S (by unfold RelM; rfl)⟩⟩
  · next i => exact ⟨_, call_abs, fun ρ H xs Q S rr p => by
      obtain ⟨x, rfl, r⟩ := rr.one
      unfold RelM at r; subst r
      exact ⟨i, rfl, p.here S (by unfold RelM; rfl)⟩⟩
  · next i j => exact ⟨_, call_min2 C.calm, fun ρ H xs Q S rr p => by
      obtain ⟨x, y, rfl, r, r2⟩ := relMs2 rr
      unfold RelM at r r2; subst r r2
      exact ⟨i, j, rfl, p.here S (by unfold RelM; rfl)⟩⟩
  · next i j => exact ⟨_, call_max2 C.calm, fun ρ H xs Q S rr p => by
      obtain ⟨x, y, rfl, r, r2⟩ := relMs2 rr
      unfold RelM at r r2; subst r r2
      exact ⟨i, j, rfl, p.here S (by unfold RelM; rfl)⟩⟩
  · next i => exact ⟨_, call_int1, fun ρ H xs Q S rr p => by
      obtain ⟨x, rfl, r⟩ := rr.one
      unfold RelM at r; subst r
      exact .inl ⟨i, rfl, p.here S (by unfold RelM; rfl)⟩⟩
  · next s =>
    split
    · next h => exact ⟨_, call_int_str, fun ρ H xs Q S rr p => by
        obtain ⟨x, rfl, r⟩ := rr.one
        unfold RelM at r; subst r
        obtain ⟨n, e⟩ := Option.isSome_iff_exists.mp h.2
        exact ⟨s, n, rfl, e, h.1, p.here S (by unfold RelM; rw [e]; rfl)⟩⟩
    · exact .no
  · next i =>
    split
    · next h => exact ⟨_, call_str_int, fun ρ H xs Q S rr p => by
        obtain ⟨x, rfl, r⟩ := rr.one
        unfold RelM at r; subst r
        exact ⟨i, rfl, h, p.here S (by unfold RelM; rfl)⟩⟩
    · exact .no
  · next s => exact ⟨_, SkE.call_str_str, fun ρ H xs Q S rr p => by
      obtain ⟨x, rfl, r⟩ := rr.one
      unfold RelM at r; subst r
      exact ⟨s, rfl, p.here S (by unfold RelM; rfl)⟩⟩
  · next v => refine Cal.items fun ys e => ?_
              split
              · next ns en => exact ⟨_, cr_sortedI, fun ρ H xs Q S rr p => by
                  obtain ⟨x, rfl, r⟩ := rr.one
                  obtain ⟨_, c, vs, rfl, s1, q1⟩ := items_ok S r e
                  rw [ints_rel en q1] at s1
                  refine ⟨c, ns, rfl, s1, fun ms l hp hs hl => ?_⟩
                  rw [sorted_eq hp hs]
                  refine p.newL S ?_ hl
                  generalize ns.mergeSort (fun a b => decide (a ≤ b)) = zs
                  induction zs with
                  | nil => exact .nil
                  | cons z zs ih => exact .cons (by unfold RelM; rfl) ih⟩
              · exact .no
  · next v => refine Cal.items fun ys e => ?_
              split
              · next ns en => exact ⟨_, cr_sum C.calm, fun ρ H xs Q S rr p => by
                  obtain ⟨x, rfl, r⟩ := rr.one
                  obtain ⟨_, c, vs, rfl, s1, q1⟩ := items_ok S r e
                  rw [ints_rel en q1] at s1
                  exact ⟨c, ns, rfl, s1, p.here S (by unfold RelM; rfl)⟩⟩
              · exact .no
  · next v => refine Cal.items fun ys e => ?_
              split
              · next ns en => exact ⟨_, cr_all C.calm, fun ρ H xs Q S rr p => by
                  obtain ⟨x, rfl, r⟩ := rr.one
                  obtain ⟨_, c, vs, rfl, s1, q1⟩ := items_ok S r e
                  rw [bools_rel en q1] at s1
                  exact ⟨c, ns, rfl, s1, p.here S (by unfold RelM; rfl)⟩⟩
              · exact .no
  · next v =>
    split
    · next d e1 =>
      split
      · next h => exact ⟨_, call_reprR C v W d e1 h.1 h.2.1 h.2.2, fun ρ H xs Q S rr p => by
          obtain ⟨x, rfl, r⟩ := rr.one
          exact ⟨x, ρ, rfl, S, r, p.here S (by unfold RelM; rfl)⟩⟩
      · exact .no
    · exact .no
  · next ys => exact ⟨_, call_list_of, fun ρ H xs Q S rr p => by
      obtain ⟨x, rfl, r⟩ := rr.one
      unfold RelM at r
      obtain ⟨c, vs, rfl, s1, q1⟩ := r
      exact ⟨c, vs, rfl, .inr s1, fun l hl => p.newL S q1 hl⟩⟩
  · next v _ => exact Cal.items fun ys e => ⟨_, call_list_of, fun ρ H xs Q S rr p => by
      obtain ⟨x, rfl, r⟩ := rr.one
      obtain ⟨_, c, vs, rfl, s1, q1⟩ := items_ok S r e
      exact ⟨c, vs, rfl, .inl s1, fun l hl => p.newL S q1 hl⟩⟩
  · next ys => exact ⟨_, call_tuple_of, fun ρ H xs Q S rr p => by
      obtain ⟨x, rfl, r⟩ := rr.one
      unfold RelM at r
      obtain ⟨c, vs, rfl, s1, q1⟩ := r
      exact ⟨c, vs, rfl, .inr ⟨s1, p.here S (by unfold RelM; exact ⟨c, vs, rfl, s1, q1⟩)⟩⟩⟩
  · next v _ => exact Cal.items fun ys e => ⟨_, call_tuple_of, fun ρ H xs Q S rr p => by
      obtain ⟨x, rfl, r⟩ := rr.one
      obtain ⟨_, c, vs, rfl, s1, q1⟩ := items_ok S r e
      refine ⟨c, vs, rfl, .inl ⟨s1, fun l hl => ?_⟩⟩
      have U : Up ρ H ρ (upd H l (.tup vs)) := Up.fresh0 hl
      refine p ρ _ _ U (S.fresh0 hl) ?_
      unfold RelM
      exact ⟨l, vs, rfl, .inl (.inl upd_same), q1.up U⟩⟩
  · exact .no

/-! ### methods of built-in types -/
theorem mt_no (id : String) : MtR X id (fun _ _ _ _ => False) := fun _ _ _ _ _ _ _ _ _ _ _ _ h => h.elim
def bmT : Bm → String
  | .append | .insert | .reverse | .extend => "list"
  | .join | .split | .splitN => "str"
def bmN : Bm → Str
  | .append => "append"
  | .join => "join"
  | .insert => "insert"
  | .reverse => "reverse"
  | .extend => "extend"
  | .split | .splitN => "split"
def bmI : Bm → String
  | .append => "list.append"
  | .join => "str.join"
  | .insert => "list.insert"
  | .reverse => "list.reverse"
  | .extend => "list.extend"
  | .split | .splitN => "str.split"
theorem bm_pa : ∀ m, PlainAttrs (bmT m)
  | .append | .insert | .reverse | .extend => PySem.F.plainAttrs_list
  | .join | .split | .splitN => PySem.F.plainAttrs_str
theorem bm_slot : ∀ m, Slot (bmT m) (bmN m) (bmI m)
  | .append => PySem.F.slot_list_append
  | .join => PySem.F.slot_str_join
  | .insert => PySem.F.slot_list_insert
  | .reverse => PySem.F.slot_list_reverse
  | .extend => PySem.F.slot_list_extend
  | .split => PySem.F.slot_str_split
  | .splitN => PySem.F.slot_str_split
theorem bm_type : ∀ m, typeOf (.builtin (bmI m)) = pure (.type "method_descriptor")
  | .append => PySem.F.type_list_append
  | .join => PySem.F.type_str_join
  | .insert => PySem.F.type_list_insert
  | .reverse => PySem.F.type_list_reverse
  | .extend => PySem.F.type_list_extend
  | .split => PySem.F.type_str_split
  | .splitN => PySem.F.type_str_split
theorem bm_ty (m : Bm) (v : MV) {W1 : Wd} (e : bmChk m v W = .ok () W1) : W1 = W ∧ ∀ {x : V}, SimW ρ K W H → RelM ρ K H v x → tyV K (bmT m) x H := by
  unfold bmChk at e
  split at e
  · next n =>
    split at e
    · next hb =>
      split at e
      · next xs e1 =>
        cases e
        refine ⟨rfl, fun {x} S r => ?_⟩
        unfold RelM at r
        obtain ⟨p, rfl, ep⟩ := r
        obtain ⟨vs, h1, _⟩ := S.lst e1 ep
        have ht : bmT m = "list" := by cases m <;> first | rfl | cases hb
        rw [ht]
        exact .inl ⟨rfl, vs, SqL.of h1⟩
      · cases e
    · cases e
  · next s =>
    split at e
    · next hb =>
      cases e
      refine ⟨rfl, fun {x} S r => ?_⟩
      unfold RelM at r; subst r
      have ht : bmT m = "str" := by cases m <;> first | rfl | cases hb
      rw [ht]
      exact (rfl : "str" = "str")
    · cases e
  · cases e
theorem strs_relm {ρ : List Addr} {K : PySem.W.Frag} {H : Hp} : ∀ ys : List Str, RelMs ρ K H (ys.map MV.str) (ys.map V.str)
  | [] => .nil
  | y :: r => .cons (by unfold RelM; rfl) (strs_relm r)
theorem bm_ok (m : Bm) (v : MV) (vs : List MV) (W : Wd) : ∃ r, MtR X (bmI m) r ∧ ∀ ρ H x xs Q, SimW ρ X.K W H → RelM ρ X.K H v x → RelMs ρ X.K H vs xs → PostP ρ X.K H Q (bmM m v vs W) → r x xs H Q := by
  unfold bmM
  split
  · next n y => exact ⟨_, mt_append, fun ρ H x xs Q S r rs p => by
      unfold RelM at r
      obtain ⟨c, rfl, ec⟩ := r
      obtain ⟨u, rfl, ru⟩ := rs.one
      split at p
      · next ys e1 =>
        obtain ⟨ws, h1, q1⟩ := S.lst e1 ec
        split at p
        · next hl =>
          refine ⟨c, ws, u, rfl, rfl, h1, by rw [← q1.length]; exact hl, ?_⟩
          have U : Up ρ H ρ (upd H c (.lst (ws ++ [u]))) := Up.write h1 (fun _ z => by cases z) (fun _ _ z => by cases z) (fun _ z => by cases z)
          obtain ⟨S2, _⟩ := S.write (c' := .lst (ys ++ [y])) (o := .lst (ws ++ [u])) e1 ec rfl ⟨_, upd_same, (q1.append (.cons ru .nil)).up U⟩
          exact p ρ _ _ U S2 (by unfold RelM; rfl)
        · exact p.elim
      · exact p.elim⟩
  · next n i y => exact ⟨_, mt_insert, fun ρ H x xs Q S r rs p => by
      unfold RelM at r
      obtain ⟨c, rfl, ec⟩ := r
      obtain ⟨u1, u, rfl, ru1, ru⟩ := relMs2 rs
      unfold RelM at ru1; subst ru1
      split at p
      · next ys e1 =>
        obtain ⟨ws, h1, q1⟩ := S.lst e1 ec
        split at p
        · next hl =>
          refine ⟨c, ws, i, u, rfl, rfl, h1, by rw [← q1.length]; exact hl.1, hl.2.1, hl.2.2, ?_⟩
          have U : Up ρ H ρ (upd H c (.lst (ws.take i.toNat ++ [u] ++ ws.drop i.toNat))) := Up.write h1 (fun _ z => by cases z) (fun _ _ z => by cases z) (fun _ z => by cases z)
          obtain ⟨S2, _⟩ := S.write (c' := .lst (ys.take i.toNat ++ [y] ++ ys.drop i.toNat)) (o := .lst (ws.take i.toNat ++ [u] ++ ws.drop i.toNat)) e1 ec rfl ⟨_, upd_same, ((((q1.take _).append (.cons ru .nil))).append (q1.drop _)).up U⟩
          exact p ρ _ _ U S2 (by unfold RelM; rfl)
        · exact p.elim
      · exact p.elim⟩
  · next n => exact ⟨_, mt_reverse, fun ρ H x xs Q S r rs p => by
      unfold RelM at r
      obtain ⟨c, rfl, ec⟩ := r
      unfold RelMs at rs; subst rs
      split at p
      · next ys e1 =>
        obtain ⟨ws, h1, q1⟩ := S.lst e1 ec
        refine ⟨c, ws, rfl, rfl, h1, ?_⟩
        have U : Up ρ H ρ (upd H c (.lst ws.reverse)) := Up.write h1 (fun _ z => by cases z) (fun _ _ z => by cases z) (fun _ z => by cases z)
        obtain ⟨S2, _⟩ := S.write (c' := .lst ys.reverse) (o := .lst ws.reverse) e1 ec rfl ⟨_, upd_same, q1.reverse.up U⟩
        exact p ρ _ _ U S2 (by unfold RelM; rfl)
      · exact p.elim⟩
  · next a b =>
    split
    · next h => exact ⟨_, mt_split, fun ρ H x xs Q S r rs p => by
        unfold RelM at r; subst r
        obtain ⟨u, rfl, ru⟩ := rs.one
        unfold RelM at ru; subst ru
        exact ⟨a, b, rfl, rfl, h.1, h.2, fun l hl => p.newL S (strs_relm _) hl⟩⟩
    · exact ⟨_, mt_no _, fun _ _ _ _ _ _ _ _ p => p⟩
  · next a b k =>
    split
    · next h => exact ⟨_, mt_splitMax, fun ρ H x xs Q S r rs p => by
        unfold RelM at r; subst r
        obtain ⟨u, u2, rfl, ru, ru2⟩ := relMs2 rs
        unfold RelM at ru ru2; subst ru ru2
        exact ⟨a, b, k, rfl, rfl, h.1, h.2.1, h.2.2.1, h.2.2.2, fun l hl => p.newL S (strs_relm _) hl⟩⟩
    · exact ⟨_, mt_no _, fun _ _ _ _ _ _ _ _ p => p⟩
  · next n y => exact ⟨_, mt_extend, fun ρ H x xs Q S r rs p => by
      unfold RelM at r
      obtain ⟨c, rfl, ec⟩ := r
      obtain ⟨u, rfl, ru⟩ := rs.one
      split at p
      · next ys e1 =>
        obtain ⟨ws, h1, q1⟩ := S.lst e1 ec
        cases y with
        | ref m =>
          dsimp only at p
          unfold RelM at ru
          obtain ⟨d, rfl, ed⟩ := ru
          split at p
          · next zs e2 =>
            obtain ⟨us, h2, q2⟩ := S.lst e2 ed
            split at p
            · next hl =>
              refine ⟨c, d, ws, us, rfl, rfl, h1, h2, by rw [← q1.length, ← q2.length]; exact hl, ?_⟩
              have U : Up ρ H ρ (upd H c (.lst (ws ++ us))) := Up.write h1 (fun _ z => by cases z) (fun _ _ z => by cases z) (fun _ z => by cases z)
              obtain ⟨S2, _⟩ := S.write (c' := .lst (ys ++ zs)) (o := .lst (ws ++ us)) e1 ec rfl ⟨_, upd_same, (q1.append q2).up U⟩
              exact p ρ _ _ U S2 (by unfold RelM; rfl)
            · exact p.elim
          · exact p.elim
        | _ => exact p.elim
      · exact p.elim⟩
  · next a y =>
    exact ⟨_, mt_join, fun ρ H x xs Q S r rs p => by
      unfold RelM at r; subst r
      obtain ⟨u, rfl, ru⟩ := rs.one
      unfold bnd at p
      split at p
      · next ys W1 e =>
        obtain ⟨eW, c, ws, rfl, s1, q1⟩ := items_ok S ru e
        subst eW
        dsimp only at p
        split at p
        · next zs ez =>
          split at p
          · next hl =>
            rw [strs_rel ez q1] at s1
            exact ⟨a, c, zs, rfl, rfl, .inl s1, hl, p.here S (by unfold RelM; rfl)⟩
          · exact p.elim
        · exact p.elim
      · exact p.elim
      · exact p.elim⟩
  · exact ⟨_, mt_no _, fun _ _ _ _ _ _ _ _ p => p⟩

/-! ### isinstance -/
theorem ty_ok {v : MV} {t : String} {x : V} (S : SimW ρ K W H) (r : RelM ρ K H v x) (e : tyOf W v = some t) : TyX K H x (.type t) := by
  cases v with
  | non => unfold RelM at r; subst r; cases e; exact .base .non
  | bl b => unfold RelM at r; subst r; cases e; exact .base (.bl b)
  | int b => unfold RelM at r; subst r; cases e; exact .base (.int b)
  | str b => unfold RelM at r; subst r; cases e; exact .base (.str b)
  | tup xs =>
    unfold RelM at r
    obtain ⟨p, vs, rfl, s1, _⟩ := r
    cases e
    rcases s1 with (h | ⟨o, h⟩) | ⟨o, its, n, hk, hc, _⟩
    · exact .base (.tup h)
    · exact .fTuple h
    · exact .kTuple hk hc
  | ref n =>
    unfold RelM at r
    obtain ⟨p, rfl, ep⟩ := r
    simp only [tyOf] at e
    split at e
    · next xs e1 => cases e; obtain ⟨vs, h1, _⟩ := S.lst e1 ep; exact .base (.lst h1)
    · next xs e1 =>
      cases e
      obtain ⟨vs, h1, _⟩ := S.cell n p _ e1 ep
      rcases h1 with ⟨o, h1⟩ | h1
      · exact .base (.frz h1)
      · rcases h1 (fun _ => none) with (h | ⟨o, h⟩) | ⟨o, its, n, hk, hc, _⟩
        · cases h
        · cases h
        · exact .kList hk hc
    · next kvs e1 => cases e; obtain ⟨gs, h1, _⟩ := S.cell n p _ e1 ep; exact .base (.dK h1)
    · cases e
  | cls _ => cases e
  | ty _ => cases e
theorem kitAny_ok {a : String} : ∀ {cs : List String} {b : Bool}, kitAnyB a cs = some b → PySem.W.kitAny K (.type a) (cs.map Value.type) = some b
  | [], b, e => by cases e; rfl
  | c :: cs, b, e => by
    unfold kitAnyB at e
    split at e
    · next h => cases e; exact kitAny_cons (kit_ty h) (fun z => by cases z) (fun _ => rfl)
    · next h => exact kitAny_cons (kit_ty h) (fun _ => kitAny_ok e) (fun z => by cases z)
    · cases e
end
end Mir
set_option Elab.async false
set_option linter.all false
set_option maxRecDepth 100000
set_option maxHeartbeats 4000000
/-! MCall: calls of the program's own defs, with nothing under way that shows itself. -/
namespace Mir
open PySem L2

/-- room, and no repr under way -/
structure RG (k : Nat) (A : Around) : Prop where
  room : Room k A
  gd : A.guards = some []
theorem RG.mono {j k : Nat} {A : Around} (r : RG k A) (h : j ≤ k) : RG j A := ⟨r.room.mono h, r.gd⟩
theorem RG.deeper {k : Nat} {A : Around} (r : RG (k + 1) A) (env : PySem.Env) : RG k (A.deeper env) := ⟨r.room.deeper env, r.gd⟩
theorem RG.in1 {k : Nat} {A : Around} (r : RG (k + 1) A) : RG k A.in1 := ⟨r.room.in1, r.gd⟩
theorem mk_guards {C : Addr} {us : List Value} {kw : List (Str × Value)} : (Code.builtin "type.__call__" ⟨.ref C :: us, kw⟩).guards = [] := by
  have h : (Code.builtin "type.__call__" ⟨.ref C :: us, kw⟩).isGuard = false := by
    show guardIds.contains "type.__call__" = false
    decide +kernel
  unfold Code.guards
  rw [h]
  rfl
theorem RG.make {k : Nat} {A : Around} (r : RG (k + 1) A) (C : Addr) (us : List Value) (kw : List (Str × Value)) : RG k (A.under (.builtin "type.__call__" ⟨.ref C :: us, kw⟩)) := by
  refine ⟨r.room.make C us kw, ?_⟩
  show pushGuards (Code.builtin "type.__call__" ⟨.ref C :: us, kw⟩).guards A.guards = some []
  rw [mk_guards, r.gd]
  rfl

/-- what is wanted of an answer that may be an error -/
def PostC (ρ : List Addr) (K : PySem.W.Frag) (H : Hp) (Q : VK) (E : XK) : Res MV → Prop
  | .ok v W' => ∀ ρ' H' u, Up ρ H ρ' H' → SimW ρ' K W' H' → RelM ρ' K H' v u → Q u H'
  | .err e W' => ∀ ρ' H' cls d, Up ρ H ρ' H' → SimW ρ' K W' H' → ExnRel ρ' K H' e cls d → E cls d H'
  | .bad => False
/-- the promise of a def: what the mirror computes, for its parameters in order -/
def spM (K : PySem.W.Frag) (n : Nat) (m : List MV → M MV) : Sp := fun vs H Q E => ∃ ρ W args, args.length = n ∧ SimW ρ K W H ∧ RelMs ρ K H args vs ∧ PostC ρ K H Q E (m args W)

/-- a def keeps its promise where nothing is under way -/
structure FnG (P : Program) (w : World) (K : PySem.W.Frag) (mg : Str → Option Value) (base : Heap) (k : Nat) (f : Addr) (fd : FuncData) (ps : List Str) (sp : Sp) : Prop where
  run : ∀ (A : Around) (fr : List PySem.Env) (s : Shared) (H : Hp) (args : Args) (us : List Value) (xs : List V) (Q : VK) (E : XK), RG k A → Env0 P w K mg base A fr s H → BindsTo s fd args (ps.zip us) → us.length = ps.length → Vals xs us → sp xs H Q E →
    codeAny (model P w) A (.call (.ref f) args) (CR (L2.CX P w) fr P w H s Q E) s
section
variable {P : Program} {w : World} {K : PySem.W.Frag} {mg : Str → Option Value} {base : Heap}
theorem FnG.imp {k : Nat} {f : Addr} {fd : FuncData} {ps : List Str} {sp sp' : Sp} (F : FnG P w K mg base k f fd ps sp) (h : ∀ vs H Q E, sp' vs H Q E → sp vs H Q E) : FnG P w K mg base k f fd ps sp' :=
  ⟨fun A fr s H args us xs Q E a b c d e g => F.run A fr s H args us xs Q E a b c d e (h _ _ _ _ g)⟩
/-- by the body -/
theorem FnG.of {x qual : Str} {params : Arguments} {body : List Stmt} {scope : Scope} {dvs : List V} {f : Addr} {fd : FuncData} {N ps : List Str} {k : Nat} {sp : Sp}
    (F : FunD K x qual params body scope dvs [] f fd) (S : FnScope N ps scope)
    (hb : ∀ (cdv : Value) (A : Around) (fr : List PySem.Env) (s : Shared) (H : Hp) (xs : List V) (Q : VK) (E : XK), RG k (A.deeper (PyProof.Rows.envOfC qual scope s.heap.objs.size f cdv)) → xs.length = ps.length → sp xs H Q E →
      ∃ t, PSs (cxOf (L2.CX P w) P w K mg base N qual scope f cdv A fr s H E) body t ∧ t { nx := fun _ H' => Q .non H', rt := Q } (start N xs) H) :
    FnG P w K mg base (k + 1) f fd ps sp := by
  obtain ⟨oc, od, dV, kV, doc, pm, an, cdv, ct, osl, rfl, lk, hcd, _, _⟩ := F.ex
  constructor
  intro A fr s H args us xs Q E hr he bd hl rv hq
  have hx : xs.length = ps.length := rv.length.trans hl
  have inK : K.In s.heap := he.mod.kin.keeps (fun b o z => (he.bs b o z).1)
  have nolim : s.heap.NoLimit := he.mod.nolimit.keeps (fun b o z => (he.bs b o z).1)
  have kinds : ∀ y ∈ ps.zip us, scope.names.lookup y.1 = some .local ∨ (scope.names.lookup y.1 = some .cell ∧ ((cellsFrom (s.heap.objs.size + 1) scope.names []).lookup y.1).isSome = true) := by
    rintro ⟨n, v⟩ hy
    cases S.par n (List.of_mem_zip hy).1 with
    | inl q => exact .inl q
    | inr q => exact .inr ⟨q, PySem.W.cellsFrom_some _ _ _ (.inl q)⟩
  apply codeAny_call_function hr.room.depth (inK _ _ lk) rfl S.co S.gen rfl (PySem.W.codeRec_of inK hcd) (bd _ _ _ _ ?_)
  apply wpAny_newFunctionEnv_cells S.kind kinds
  intro env henv s1 ic
  subst henv
  refine ⟨nolim.keeps ic.toInCall.keep, codeAny_func ?_⟩
  obtain ⟨t, ht, htq⟩ := hb cdv A fr s H xs Q E (hr.deeper _) hx hq
  have I0 := inv_start (CX := L2.CX P w) (E := E) S hr.room.hd he hx rv ic
  apply wpAny_mono (ht.run [] s1 (start N xs) H _ I0 htq)
  · intro fl s' hs
    cases fl with
    | ret u =>
      obtain ⟨v, σ', H', J, r', q'⟩ := hs
      exact ⟨v, H', J.os, J.bare, J.base, J.hok, r', q'⟩
    | next =>
      obtain ⟨σ', H', J, q'⟩ := hs
      exact ⟨.non, H', J.os, J.bare, J.base, J.hok, rfl, q'⟩
    | brk => obtain ⟨_, _, _, q'⟩ := hs; exact q'.elim
    | cont => obtain ⟨_, _, _, q'⟩ := hs; exact q'.elim
  · exact fun e s' hs => hs
end

/-- where a def stands, and how it is called -/
structure DefAt (K : PySem.W.Frag) (a : Addr) (x qual : Str) (body : List Stmt) (scope : Scope) (ps : List Str) (dfl : List MV) (fd : FuncData) : Prop where
  ex : ∃ (as : List PySem.Arg) (ds : List Expr) (dvs : List V), as.map (·.arg) = ps ∧ (∀ ρ H, RelMs ρ K H dfl dvs) ∧
    FunD K x qual { posonlyargs := [], args := as, vararg := none, kwonlyargs := [], kw_defaults := [], kwarg := none, defaults := ds } body scope dvs [] a fd

/-! ### binding, by relation -/
section
variable {α β : Type} {R : α → β → Prop}
abbrev PairK (R : α → β → Prop) : List (Str × α) → List (Str × β) → Prop := Paired fun p q => p.1 = q.1 ∧ R p.2 q.2
theorem PairK.look : ∀ {s : List (Str × α)} {t : List (Str × β)} (n : Str), PairK R s t → (∀ v, s.lookup n = some v → ∃ u, t.lookup n = some u ∧ R v u) ∧ (s.lookup n = none → t.lookup n = none)
  | _, _, n, .nil => ⟨fun v h => by simp at h, fun _ => rfl⟩
  | _, _, n, .cons (a := p) (b := q) h r => by
    obtain ⟨k, v⟩ := p
    obtain ⟨k', v'⟩ := q
    obtain ⟨rfl, h2⟩ := (show k = k' ∧ R v v' from h)
    obtain ⟨i1, i2⟩ := PairK.look n r
    simp only [List.lookup_cons]
    split
    · exact ⟨fun x hx => by cases hx; exact ⟨v', rfl, h2⟩, fun hx => by cases hx⟩
    · exact ⟨i1, i2⟩
theorem PairK.none_iff {s : List (Str × α)} {t : List (Str × β)} (n : Str) (h : PairK R s t) : (s.lookup n).isNone = (t.lookup n).isNone := by
  obtain ⟨h1, h2⟩ := PairK.look n h
  cases e : s.lookup n with
  | none => rw [h2 e]; rfl
  | some v => obtain ⟨u, e2, _⟩ := h1 v e; rw [e2]; rfl
theorem Paired.app {F : α → β → Prop} : ∀ {a c : List α} {b d : List β}, Paired F a b → Paired F c d → Paired F (a ++ c) (b ++ d)
  | _, _, _, _, .nil, h => h
  | _, _, _, _, .cons x r, h => .cons x (Paired.app r h)
theorem Paired.len {F : α → β → Prop} : ∀ {a : List α} {b : List β}, Paired F a b → a.length = b.length
  | _, _, .nil => rfl
  | _, _, .cons _ r => by simp [Paired.len r]
theorem PairK.zip : ∀ (ps : List Str) {a : List α} {b : List β}, Paired R a b → PairK R (ps.zip a) (ps.zip b)
  | [], _, _, _ => by simp; exact .nil
  | p :: ps, _, _, .nil => by simp; exact .nil
  | p :: ps, _, _, .cons x r => by simp only [List.zip_cons_cons]; exact .cons ⟨rfl, x⟩ (PairK.zip ps r)
theorem PairK.fill : ∀ {r : List (Str × α)} {r' : List (Str × β)} {s : List (Str × α)} {t : List (Str × β)}, PairK R s t → PairK R r r' → PairK R (fillD s r) (fillD t r')
  | _, _, _, _, h, .nil => h
  | _, _, s, t, h, .cons (a := p) (b := q) x y => by
    obtain ⟨k, v⟩ := p
    obtain ⟨k', v'⟩ := q
    obtain ⟨rfl, h2⟩ := (show k = k' ∧ R v v' from x)
    unfold fillD
    rw [h.none_iff k]
    split
    · exact PairK.fill (Paired.app h (.cons ⟨rfl, h2⟩ .nil)) y
    · exact PairK.fill h y
theorem PairK.kw : ∀ {ps : List Str} {r : List (Str × α)} {r' : List (Str × β)} {s : List (Str × α)} {t : List (Str × β)}, PairK R s t → PairK R r r' → kwOk ps s r = kwOk ps t r'
  | _, _, _, _, _, h, .nil => rfl
  | ps, _, _, s, t, h, .cons (a := p) (b := q) x y => by
    obtain ⟨k, v⟩ := p
    obtain ⟨k', v'⟩ := q
    obtain ⟨rfl, h2⟩ := (show k = k' ∧ R v v' from x)
    unfold kwOk
    rw [h.none_iff k, PairK.kw (ps := ps) (Paired.app h (.cons (show (k, v).1 = (k, v').1 ∧ R (k, v).2 (k, v').2 from ⟨rfl, h2⟩) .nil)) y]
theorem PairK.mapM {s : List (Str × α)} {t : List (Str × β)} (h : PairK R s t) : ∀ {ps : List Str} {vs : List α}, ps.mapM (fun n => s.lookup n) = some vs → ∃ us, ps.mapM (fun n => t.lookup n) = some us ∧ Paired R vs us
  | [], vs, e => by cases e; exact ⟨[], rfl, .nil⟩
  | p :: ps, vs, e => by
    obtain ⟨y, r, e1, e2, rfl⟩ := mapM_cons_some e
    obtain ⟨u, u1, u2⟩ := (PairK.look p h).1 y e1
    obtain ⟨us, a, b⟩ := PairK.mapM h e2
    exact ⟨u :: us, by rw [List.mapM_cons]; simp [u1, a], .cons u2 b⟩
theorem bind_rel {ps : List Str} {us : List α} {us' : List β} {kws : List (Str × α)} {kws' : List (Str × β)} {d : List α} {d' : List β} {vs : List α} (h1 : Paired R us us') (h2 : PairK R kws kws') (h3 : Paired R d d')
    (h : bindL ps us kws d = some vs) : ∃ vs', bindL ps us' kws' d' = some vs' ∧ Paired R vs vs' := by
  unfold bindL at h ⊢
  rw [Paired.len h1, Paired.len h3, PairK.kw (PairK.zip ps h1) h2] at h
  split at h
  · next hc =>
    rw [if_pos hc]
    exact PairK.mapM (PairK.fill (Paired.app (PairK.zip ps h1) h2) (PairK.zip _ h3)) h
  · cases h
end
/-- a mirror value and a machine's value -/
def RelU (ρ : List Addr) (K : PySem.W.Frag) (H : Hp) (m : MV) (u : Value) : Prop := ∃ x, RelM ρ K H m x ∧ RelV x u
theorem relU_all {ρ : List Addr} {K : PySem.W.Frag} {H : Hp} : ∀ {vs : List MV} {xs : List V} {us : List Value}, RelMs ρ K H vs xs → Vals xs us → Paired (RelU ρ K H) vs us
  | [], _, _, r, rv => by unfold RelMs at r; subst r; cases rv; exact .nil
  | v :: vs, _, _, r, rv => by
    obtain ⟨x, xs, rfl, r1, r2⟩ := r.uncons
    cases rv with
    | cons a b => exact .cons ⟨x, r1, a⟩ (relU_all r2 b)
theorem relU_split {ρ : List Addr} {K : PySem.W.Frag} {H : Hp} : ∀ {vs : List MV} {us : List Value}, Paired (RelU ρ K H) vs us → ∃ xs, RelMs ρ K H vs xs ∧ Vals xs us
  | _, _, .nil => ⟨[], .nil, .nil⟩
  | _, _, .cons ⟨x, a, b⟩ r => by
    obtain ⟨xs, c, d⟩ := relU_split r
    exact ⟨x :: xs, .cons a c, .cons b d⟩
theorem pairK_zip2 {α β : Type} {R : α → β → Prop} (ks : List Str) {a : List α} {b : List β} (h : Paired R a b) : PairK R (ks.zip a) (ks.zip b) := PairK.zip ks h
end Mir
set_option Elab.async false
set_option linter.all false
set_option maxRecDepth 100000
set_option maxHeartbeats 4000000
/-! MProg: a whole mirror program, level by level. -/
namespace Mir
open PySem L2
structure FDef where
  ps : List Str
  dfl : List MV
  N : List Str
  body : List Sx
structure Prog where
  fns : List (Fid × FDef)
  clss : List Str
  props : List (Str × Str)
  flds : List (Str × Str)
  exf : List (Str × List Str)
  errs : List Str
  subs : List (Str × Str)
  glb : List (Str × MV) := []
def Prog.calls (T : Prog) (fn : Fid → List MV → List (Str × MV) → M MV) : Calls :=
  ⟨fn, fun C f => T.props.contains (C, f), fun C f => T.flds.contains (C, f), fun C => T.clss.contains C, fun f => (T.fns.lookup f).isSome, fun C => (T.exf.lookup C).getD [], fun C => T.errs.contains C, fun C D => C == D || T.subs.contains (C, D)⟩
def startS (N : List Str) (vs : List MV) : Env := vs.map some ++ List.replicate (N.length - vs.length) none
/-- a def's body, run -/
def runD (c : Calls) (d : FDef) (vs : List MV) : M MV := fun w => match exeL c none d.body (startS d.N vs) w with
  | .ok (.rt v) w' => .ok v w'
  | .ok (.nx _) w' => .ok .non w'
  | .ok (.ex e _) w' => .err e w'
  | _ => .bad
def callF (T : Prog) : Nat → Fid → List MV → List (Str × MV) → M MV
  | 0, _, _, _ => stuck
  | n + 1, f, vs, kvs => match T.fns.lookup f with
    | none => stuck
    | some d => match bindL d.ps vs kvs d.dfl with
      | none => stuck
      | some as => runD (T.calls (callF T n)) d as
end Mir
set_option Elab.async false
set_option linter.all false
set_option maxRecDepth 100000
set_option maxHeartbeats 4000000
/-! MExpr: expressions, by their parts. -/
namespace Mir
open PySem L2
abbrev Rl (α β : Type) := List Addr → Hp → α → β → Prop
/-- what is wanted of an answer, by a relation of answers -/
def PostR {α β : Type} (R : Rl α β) (K : PySem.W.Frag) (Wx : WL) (σ : L2.St) (ρ : List Addr) (H : Hp) (Q : β → Hp → Prop) : Res α → Prop
  | .ok v W' => ∀ ρ' H' u, Up ρ H ρ' H' → SimW ρ' K W' H' → R ρ' H' v u → Q u H'
  | .err e W' => ∀ ρ' H' cls d, Up ρ H ρ' H' → SimW ρ' K W' H' → ExnRel ρ' K H' e cls d → Wx cls d σ H'
  | .bad => False
def tMR {α β : Type} (R : Rl α β) (K : PySem.W.Frag) (Wx : WL) (m : Env → M α) : L2.St → Hp → (β → Hp → Prop) → Prop :=
  fun σ H Q => ∃ ρ S W, RelS Wx.e ρ K H S σ ∧ SimW ρ K W H ∧ PostR R K Wx σ ρ H Q (m S W)
abbrev rV (K : PySem.W.Frag) : Rl MV V := fun ρ H v u => RelM ρ K H v u
abbrev rVs (K : PySem.W.Frag) : Rl (List MV) (List V) := fun ρ H v u => RelMs ρ K H v u
abbrev rB : Rl Bool Bool := fun _ _ a b => a = b
abbrev tM (K : PySem.W.Frag) (Wx : WL) (m : Env → M MV) : TE := tMR (rV K) K Wx m
abbrev tMs (K : PySem.W.Frag) (Wx : WL) (m : Env → M (List MV)) : TA := tMR (rVs K) K Wx m
abbrev tMb (K : PySem.W.Frag) (Wx : WL) (m : Env → M Bool) : TT := tMR rB K Wx m
section
variable {α β : Type} {R : Rl α β} {K : PySem.W.Frag} {Wx : WL} {σ : L2.St} {ρ ρ' : List Addr} {H H' : Hp} {Q : β → Hp → Prop} {m : Env → M α} {S : Env} {W W' : Wd}
theorem tM_ok {v : α} (r : RelS Wx.e ρ K H S σ) (s : SimW ρ K W H) (e : m S W = .ok v W') (k : ∀ ρ1 H1 u, Up ρ H ρ1 H1 → SimW ρ1 K W' H1 → R ρ1 H1 v u → Q u H1) : tMR R K Wx m σ H Q :=
  ⟨ρ, S, W, r, s, by rw [e]; exact k⟩
theorem tM_err {x : Exn} (r : RelS Wx.e ρ K H S σ) (s : SimW ρ K W H) (e : m S W = .err x W') (k : ∀ ρ1 H1 cls d, Up ρ H ρ1 H1 → SimW ρ1 K W' H1 → ExnRel ρ1 K H1 x cls d → Wx cls d σ H1) : tMR R K Wx m σ H Q :=
  ⟨ρ, S, W, r, s, by rw [e]; exact k⟩
theorem tM_up {v : Res α} (u : Up ρ H ρ' H') (h : PostR R K Wx σ ρ H Q v) : PostR R K Wx σ ρ' H' Q v := by
  cases v with
  | ok v w => exact fun ρ1 H1 x u1 => h ρ1 H1 x (u.trans u1)
  | err e w => exact fun ρ1 H1 c d u1 => h ρ1 H1 c d (u.trans u1)
  | bad => exact h
theorem PostR.toP {Q : VK} {v : Res MV} (h : PostR (rV K) K Wx σ ρ H Q v) (ne : ∀ e w, v ≠ .err e w) : PostP ρ K H Q v := by
  cases v with
  | ok v w => exact h
  | err e w => exact absurd rfl (ne e w)
  | bad => exact h
/-- the answer at hand -/
theorem PostR.now {v : α} {u : β} (h : PostR R K Wx σ ρ H Q (.ok v W)) (s : SimW ρ K W H) (r : R ρ H v u) : Q u H := h ρ H u .refl s r
/-- two steps: the first one's reading, whatever follows -/
theorem tM_bnd {α' β' : Type} {R' : Rl α' β'} {f : α → M α'} {Q : β' → Hp → Prop} (r : RelS Wx.e ρ K H S σ) (s : SimW ρ K W H) (h : PostR R' K Wx σ ρ H Q (bnd (m S) f W)) :
    tMR R K Wx m σ H (fun u H1 => ∃ v ρ1 W1, m S W = .ok v W1 ∧ Up ρ H ρ1 H1 ∧ SimW ρ1 K W1 H1 ∧ R ρ1 H1 v u ∧ PostR R' K Wx σ ρ1 H1 Q (f v W1)) := by
  unfold bnd at h
  cases e : m S W with
  | ok v W1 =>
    rw [e] at h
    exact tM_ok r s e fun ρ1 H1 u u1 s1 r1 => ⟨v, ρ1, W1, rfl, u1, s1, r1, tM_up u1 h⟩
  | err x W1 =>
    rw [e] at h
    exact tM_err r s e h
  | bad => rw [e] at h; exact h.elim
end
section
variable {X : Cx} {Wx : WL} {a b c d : Expr} {fa fb fc : Env → M MV} {pos : Pos}
/-- an expression whose reading is chosen as the mirror says -/
theorem pe_dyn {e : Expr} {m : Env → M MV} (h : ∀ ρ S W σ H Q, RelS Wx.e ρ X.K H S σ → SimW ρ X.K W H → PostR (rV X.K) X.K Wx σ ρ H Q (m S W) → ∃ t, PE X e t ∧ t σ H Q) : PE X e (tM X.K Wx m) := by
  refine ⟨fun pins s σ H Q I q => ?_⟩
  obtain ⟨ρ, S, W, r, sm, p⟩ := q
  obtain ⟨t, h1, h2⟩ := h ρ S W σ H Q r sm p
  exact h1.run pins s σ H Q I h2
theorem pe_wk {e : Expr} {t t' : TE} (h : PE X e t) (k : ∀ σ H Q, t' σ H Q → t σ H Q) : PE X e t' := ⟨fun pins s σ H Q I q => h.run pins s σ H Q I (k σ H Q q)⟩
theorem pt_wk {e : Expr} {t t' : TT} (h : PT X e t) (k : ∀ σ H Q, t' σ H Q → t σ H Q) : PT X e t' := ⟨fun pins s σ H Q I q => h.run pins s σ H Q I (k σ H Q q)⟩
theorem pw_wk {e : Expr} {t t' : TT} (h : PW X e t) (k : ∀ σ H Q, t' σ H Q → t σ H Q) : PW X e t' := ⟨fun wh pins s σ H Q I q => h.run wh pins s σ H Q I (k σ H Q q)⟩
theorem me_lit {e : Expr} {v : MV} {x : V} (h : PE X e (tC x)) (r : ∀ ρ H, RelM ρ X.K H v x) : PE X e (tM X.K Wx fun _ => ret v) :=
  pe_wk h fun σ H Q ⟨ρ, S, W, _, s, p⟩ => p.now s (r ρ H)
theorem me_var {e : Expr} {i : Nat} (h : PE X e (tVar i)) (c : Calls) (cur : Option Exn) : PE X e (tM X.K Wx (den c cur (.var i))) := by
  refine pe_wk h fun σ H Q ⟨ρ, S, W, r, s, p⟩ => ?_
  unfold den at p
  cases e : S[i]? with
  | none => rw [e] at p; exact p.elim
  | some o =>
    cases o with
    | none => rw [e] at p; exact p.elim
    | some v =>
      rw [e] at p
      obtain ⟨u, h1, h2⟩ := r.2.1 i v e
      exact ⟨u, h1, p.now s h2⟩
/-- two operands, then a rule that the mirror chooses -/
theorem pe_two {e : Expr} {g : MV → MV → M MV} (OK : R2 → Prop) (h0 : OK fun _ _ _ _ => False) (mk : ∀ r, OK r → PE X e (tOp r (tM X.K Wx fa) (tM X.K Wx fb)))
    (no : ∀ v u W x w, g v u W ≠ .err x w) (pr : ∀ v u W, ∃ r, OK r ∧ ∀ ρ H x y Q, SimW ρ X.K W H → RelM ρ X.K H v x → RelM ρ X.K H u y → PostP ρ X.K H Q (g v u W) → r x y H Q) :
    PE X e (tM X.K Wx fun S => bnd (fa S) fun v => bnd (fb S) fun u => g v u) := by
  refine pe_dyn fun ρ S W σ H Q r s p => ?_
  cases h1 : fa S W with
  | ok v W1 =>
    cases h2 : fb S W1 with
    | ok u W2 =>
      obtain ⟨t, ht, hr⟩ := pr v u W2
      refine ⟨_, mk t ht, tM_ok r s h1 fun ρ1 H1 x u1 s1 r1 => tM_ok (r.up u1) s1 h2 fun ρ2 H2 y u2 s2 r2 => ?_⟩
      refine hr ρ2 H2 x y Q s2 (r1.up u2) r2 ?_
      have p2 : PostR (rV X.K) X.K Wx σ ρ H Q (g v u W2) := by simpa [bnd, h1, h2] using p
      exact (tM_up (u1.trans u2) p2).toP (no _ _ _)
    | err x W2 =>
      have p2 : PostR (rV X.K) X.K Wx σ ρ H Q (.err x W2) := by simpa [bnd, h1, h2] using p
      exact ⟨_, mk _ h0, tM_ok r s h1 fun ρ1 H1 x u1 s1 r1 => tM_err (r.up u1) s1 h2 (tM_up u1 p2)⟩
    | bad => simp [bnd, h1, h2, PostR] at p
  | err x W1 =>
    have p2 : PostR (rV X.K) X.K Wx σ ρ H Q (.err x W1) := by simpa [bnd, h1] using p
    exact ⟨_, mk _ h0, tM_err r s h1 p2⟩
  | bad => simp [bnd, h1, PostR] at p
theorem bin_no (op : Operator) (v u : MV) (W : Wd) (e : Exn) (w : Wd) : binM op v u W ≠ .err e w := by
  cases op <;> simp only [binM, addM, subM, mulM, modM, fdivM, powM] <;> (repeat' split) <;> simp [ret, alloc, stuck]
theorem tru_no (v : MV) (W : Wd) (e : Exn) (w : Wd) : truM v W ≠ .err e w := by
  cases v <;> simp only [truM] <;> (repeat' split) <;> simp [ret, alloc, stuck]
theorem cmp_no (op : CmpOp) (v u : MV) (W : Wd) (e : Exn) (w : Wd) : cmpM op v u W ≠ .err e w := by
  unfold cmpM
  split <;> (try simp only [eqM, neM]) <;> (repeat' split) <;> (try dsimp only) <;> (repeat' split) <;> simp [ret, alloc, stuck]
theorem idx_no (v u : MV) (W : Wd) (e : Exn) (w : Wd) : idxM v u W ≠ .err e w := by
  unfold idxM
  split <;> (repeat' split) <;> simp [stuck]
theorem slc_no (lo hi : Option Int) (v : MV) (W : Wd) (e : Exn) (w : Wd) : slcM lo hi v W ≠ .err e w := by
  unfold slcM
  split <;> (repeat' split) <;> simp [stuck, ret, alloc]
theorem cmp_bl {op : CmpOp} {v u z : MV} {W W' : Wd} (h : cmpM op v u W = .ok z W') : W' = W ∧ ∃ k, z = .bl k := by
  unfold cmpM at h
  split at h <;> (try simp only [eqM, neM] at h) <;> (try split at h) <;> (try dsimp only at h) <;> (try split at h) <;> (try split at h) <;> first
    | (cases h; done)
    | (simp only [ret, Res.ok.injEq] at h; obtain ⟨rfl, rfl⟩ := h; exact ⟨rfl, _, rfl⟩)
    | (simp only [Res.ok.injEq] at h; obtain ⟨rfl, rfl⟩ := h; exact ⟨rfl, _, rfl⟩)
    | (simp [stuck] at h)
theorem me_bin {op : Operator} (ha : PE X a (tM X.K Wx fa)) (hb : PE X b (tM X.K Wx fb)) : PE X (.BinOp a op b pos) (tM X.K Wx fun S => bnd (fa S) fun v => bnd (fb S) fun u => binM op v u) :=
  pe_two (fun r => OpR X (binaryOp op) r) (op_no _) (fun r h => pe_op h ha hb) (fun v u W x w => bin_no op v u W x w) fun v u W => bin_ok op v u W
theorem me_cmp (C : CtxOk X) {op : CmpOp} (ha : PE X a (tM X.K Wx fa)) (hb : PE X b (tM X.K Wx fb)) (hm : behindInMarks op b = false) : PE X (.Compare a [op] [b] pos) (tM X.K Wx fun S => bnd (fa S) fun v => bnd (fb S) fun u => cmpM op v u) :=
  pe_two (fun r => OpR X (compareOp op) r) (op_no _) (fun r h => pe_cmpR h ha hb hm) (fun v u W x w => cmp_no op v u W x w) fun v u W => cmp_ok C op v u W
theorem me_idx (ha : PE X a (tM X.K Wx fa)) (hb : PE X b (tM X.K Wx fb)) (hs : PlainIx b) : PE X (.Subscript a b pos) (tM X.K Wx fun S => bnd (fa S) fun v => bnd (fb S) fun u => idxM v u) :=
  pe_two (fun r => IxR X r) ix_no (fun r h => pe_ix h ha hb hs) (fun v u W x w => idx_no v u W x w) fun v u W => idx_ok v u W

/-! ### truth -/
theorem tru_ok' {K : PySem.W.Frag} {ρ : List Addr} {H : Hp} {v : MV} {W W' : Wd} {k : Bool} {x : V} (S : SimW ρ K W H) (r : RelM ρ K H v x) (h : truM v W = .ok k W') : W' = W ∧ TruV K x H k := by
  cases v with
  | non => cases h; unfold RelM at r; subst r; exact ⟨rfl, rfl⟩
  | bl b => cases h; unfold RelM at r; subst r; exact ⟨rfl, rfl⟩
  | int i => cases h; unfold RelM at r; subst r; exact ⟨rfl, rfl⟩
  | str z =>
    unfold RelM at r; subst r
    simp only [truM] at h
    split at h
    · next hz => cases h; exact ⟨rfl, hz, rfl⟩
    · cases h
  | tup xs =>
    cases h
    unfold RelM at r
    obtain ⟨p, vs, rfl, s1, q⟩ := r
    refine ⟨rfl, .inr (.inl ⟨vs, s1, ?_⟩)⟩
    cases xs <;> cases vs <;> first | rfl | (have := q.length; simp at this)
  | ref n =>
    unfold RelM at r
    obtain ⟨p, rfl, ep⟩ := r
    simp only [truM] at h
    split at h
    · next xs e =>
      cases h
      obtain ⟨vs, h1, q⟩ := S.lst e ep
      refine ⟨rfl, .inl ⟨vs, SqL.of h1, ?_⟩⟩
      cases xs <;> cases vs <;> first | rfl | (have := q.length; simp at this)
    · next xs e =>
      cases h
      obtain ⟨vs, h1, q⟩ := S.rdl e ep
      refine ⟨rfl, .inl ⟨vs, h1, ?_⟩⟩
      cases xs <;> cases vs <;> first | rfl | (have := q.length; simp at this)
    · next kvs e =>
      cases h
      obtain ⟨gs, h1, q⟩ := S.cell n p _ e ep
      refine ⟨rfl, .inr (.inr ⟨gs, h1, ?_⟩)⟩
      have := congrArg List.length q.1
      cases kvs <;> cases gs <;> first | rfl | simp at this
    · cases h
  | cls _ => cases h
  | ty _ => cases h
/-- the test of a form without a road of its own -/
theorem mt_plain {e : Expr} {m : Env → M MV} (he : PE X e (tM X.K Wx m)) (hf : ∀ whole, isTrue e X.env whole = (do let v ← whole; standAt e.pos; holding [v] (truthy v))) : PT X e (tMb X.K Wx fun S => bnd (m S) truM) := by
  refine pt_wk (pt_truth he hf) fun σ H Q ⟨ρ, S, W, r, s, p⟩ => ?_
  have q := tM_bnd (R := rV X.K) (R' := rB) (m := m) (f := truM) r s p
  obtain ⟨ρ0, S0, W0, r0, s0, p0⟩ := q
  refine ⟨ρ0, S0, W0, r0, s0, ?_⟩
  cases e1 : m S0 W0 with
  | ok v W1 =>
    rw [e1] at p0
    intro ρ1 H1 u u1 s1 r1
    obtain ⟨v2, ρ2, W2, e2, u2, s2, r2, p2⟩ := p0 ρ1 H1 u u1 s1 r1
    cases e3 : truM v2 W2 with
    | ok k W3 =>
      obtain ⟨rfl, tv⟩ := tru_ok' s2 r2 e3
      exact ⟨k, tv, by rw [e3] at p2; exact p2.now s2 rfl⟩
    | err x w => exact absurd e3 (tru_no _ _ _ _)
    | bad => rw [e3] at p2; exact p2.elim
  | err x W1 => rw [e1] at p0; exact p0
  | bad => rw [e1] at p0; exact p0.elim
theorem mt_cmp (C : CtxOk X) {op : CmpOp} (ha : PE X a (tM X.K Wx fa)) (hb : PE X b (tM X.K Wx fb)) (hm : behindInMarks op b = false) : PT X (.Compare a [op] [b] pos) (tMb X.K Wx fun S => bnd (bnd (fa S) fun v => bnd (fb S) fun u => cmpM op v u) truM) := by
  refine ⟨fun pins s0 σ H Q I ⟨ρ, S, W, r, s, p⟩ => ?_⟩
  have go : ∀ t : R2, OpR X (compareOp op) t → tTest (tOp t (tM X.K Wx fa) (tM X.K Wx fb)) σ H Q → wpAny (model X.prog X.w) X.A (isTrue (.Compare a [op] [b] pos) X.env (eval (.Compare a [op] [b] pos) X.env)) (TP X pins σ Q) X.xe s0 :=
    fun t ht q => (pt_cmpR ht ha hb hm).run pins s0 σ H Q I q
  cases h1 : fa S W with
  | ok v W1 =>
    cases h2 : fb S W1 with
    | ok u W2 =>
      obtain ⟨t, ht, hr⟩ := cmp_ok C op v u W2
      refine go t ht (tM_ok r s h1 fun ρ1 H1 x u1 s1 r1 => tM_ok (r.up u1) s1 h2 fun ρ2 H2 y u2 s2 r2 => ?_)
      refine hr ρ2 H2 x y _ s2 (r1.up u2) r2 ?_
      simp only [bnd, h1, h2] at p
      cases h3 : cmpM op v u W2 with
      | ok z W3 =>
        obtain ⟨rfl, k, rfl⟩ := cmp_bl h3
        rw [h3] at p
        intro ρ3 H3 z u3 s3 r3
        have r3' : RelM ρ3 X.K H3 (.bl k) z := r3
        unfold RelM at r3'; subst r3'
        exact ⟨k, rfl, p ρ3 H3 k ((u1.trans u2).trans u3) s3 rfl⟩
      | err x w => exact absurd h3 (cmp_no _ _ _ _ _ _)
      | bad => rw [h3] at p; exact p.elim
    | err x W2 =>
      simp only [bnd, h1, h2] at p
      exact go _ (op_no _) (tM_ok r s h1 fun ρ1 H1 x u1 s1 r1 => tM_err (r.up u1) s1 h2 fun ρ2 H2 c d u2 => p ρ2 H2 c d (u1.trans u2))
    | bad => simp [bnd, h1, h2, PostR] at p
  | err x W1 =>
    simp only [bnd, h1] at p
    exact go _ (op_no _) (tM_err r s h1 p)
  | bad => simp [bnd, h1, PostR] at p
end
end Mir
set_option Elab.async false
set_option linter.all false
set_option maxRecDepth 100000
set_option maxHeartbeats 4000000
/-! MErr: the text's own errors, their makers. -/
namespace Mir
open PySem L2
/-- what the text's part says of an error's class -/
structure ErrC (K : PySem.W.Frag) (C : Addr) (fs : List Str) : Prop where
  oex : OexC K C
  init : PySem.W.findIn K (.ref C) "__init__" = some (some (.ref (He.ma K C "__init__")))
  tI : PySem.W.typeIn K (.ref (He.ma K C "__init__")) = some (.type "function")
  no : ∀ f ∈ fs, PySem.W.findIn K (.ref C) f = some none
  xf : XfC K C
  isx : ExcC K C
abbrev slf : Str := "self"
/-- what its __init__ keeps -/
def spE (K : PySem.W.Frag) (C : Addr) (fs : List Str) : Sp := fun vs H Q _ => ∃ a ws, vs = .ref a :: ws ∧ ws.length = fs.length ∧ H a = some (exo a C none) ∧
  ∀ (dx : Addr) (H' : Hp), H dx = none → dx ≠ a → H' a = some (exo a C (some dx)) → H' dx = some (exd dx (fs.zip ws).reverse) → (∀ b, b ≠ a → b ≠ dx → H' b = H b) → Q .non H'
/-- the parent's own __init__, read off a class of the text's -/
structure InhI (K : PySem.W.Frag) (U : Addr) : Prop where
  ex : ∃ mc, PySem.W.readsIn K U mc = true ∧ PySem.W.findCls K (.ref U) mc "__init__" = some (.val (.builtin "ValueError.__init__"))
  ga : PySem.W.specialIn K (.ref U) "__getattribute__" = some (some (.builtin "type.__getattribute__"))
section
variable {X : Cx} {o e : Expr} {es : List Expr} {to te : TE} {ta : TA} {f x : Str} {p0 p1 p2 pos : Pos} {U : Addr}
theorem pe_inhI {pl : Sem Bool} (hg : Gl X x) (hm : X.mg x = some (.ref U)) (hdb : (x == ("__debug__" : Str)) = false) (J : InhI X.K U) (ha : PA X (e :: es) ta)
    (hc : eval (.Call (.Attribute (.Name x p1) "__init__" p2) (e :: es) [] pos) X.env = (do
      let cv ← eval (.Name x p1) X.env
      standAt p2.atName
      let (g, fst) ← holding [cv] (getMethod cv "__init__" pl)
      callWith pos g fst (backTo pos (starEach (e :: es) X.env)) (backToKw pos (keywordEach [] X.env))) := by rfl)
    (he : starEach (e :: es) X.env = (false, eval e X.env) :: starEach es X.env := by rfl) (hpl : (backTo pos (starEach es X.env)).any (·.1) = false := by rfl) :
    PE X (.Call (.Attribute (.Name x p1) "__init__" p2) (e :: es) [] pos) (tVeI X.K ta) := by
  obtain ⟨mc, j1, j2⟩ := J.ex
  constructor
  intro pins s σ H Q I h
  refine PySem.W.methodCall_KW (ld_glob I hg hm ?_ hdb) hc
  refine PySem.W.method_cls I.kIn J.ga ?_
  refine PySem.W.cls_value I.kIn j1 j2 (by decide +kernel) ?_
  show wpAny _ _ (callWith pos (Value.builtin "ValueError.__init__") [] (backTo pos (starEach (e :: es) X.env)) []) _ _ _
  refine PyProof.Rows.callWith_method1 (thn (ha.run pos pins _ σ H _ (I.tok _) h) fun us s1 g => ?_) he hpl
  obtain ⟨vs, H1, I1, r1, a, C, ws, ev, hl, T, ea, q⟩ := g
  subst ev
  cases r1 with
  | @cons _ u0 _ ur ra rw' =>
    obtain rfl : u0 = Value.ref a := ra
    have hlen : ur.length ≤ sizeLine := by
      rw [← Paired.length rw', sizeLine_eq]
      omega
    exact oinit_ok T I1 ea hlen fun s' J => ⟨.non, H1, J, rfl, q⟩

/-! ### the body of an error's __init__ -/
def tFs (K : PySem.W.Frag) : List (Str × Nat) → TS
  | [] => tNext
  | p :: r => tSeq (tOst K p.1 (tVar 0) (tVar p.2)) (tFs K r)
inductive AsgsOk (X : Cx) : List Stmt → List (Str × Nat) → Prop
  | nil : AsgsOk X [] []
  | cons {st : Stmt} {r : List Stmt} {f : Str} {i : Nat} {l : List (Str × Nat)} (h : PS X st (tOst X.K f (tVar 0) (tVar i))) (hr : AsgsOk X r l) : AsgsOk X (st :: r) ((f, i) :: l)
theorem AsgsOk.run : ∀ {b : List Stmt} {l : List (Str × Nat)}, AsgsOk X b l → PSs X b (tFs X.K l)
  | _, _, .nil => pss_nil
  | _, _, .cons h r => pss_cons h r.run
theorem fs_old {K : PySem.W.Frag} {a C : Addr} (T : OexC K C) {dx : Addr} {D : Ends} {σ : L2.St} (hda : dx ≠ a) (h0 : σ[0]? = some (some (.ref a))) : ∀ (l : List (Str × Nat)) (ys : List V) (acc : List (Str × V)) (H : Hp),
    Paired (fun p y => σ[p.2]? = some (some y)) l ys → (∀ p ∈ l, PySem.W.findIn K (.ref C) p.1 = some none) → acc.length + l.length ≤ 900 → H a = some (exo a C (some dx)) → H dx = some (exd dx acc) →
    (∀ H' : Hp, H' a = some (exo a C (some dx)) → H' dx = some (exd dx (((l.map (·.1)).zip ys).reverse ++ acc)) → (∀ b, b ≠ dx → H' b = H b) → D.nx σ H') → tFs K l D σ H
  | [], ys, acc, H, hp, _, _, e1, e2, k => by
    cases hp
    exact k H e1 (by simpa using e2) (fun _ _ => rfl)
  | p :: l, ys, acc, H, hp, hn, hl, e1, e2, k => by
    obtain ⟨f, i⟩ := p
    cases hp with
    | @cons _ y _ ys h hr =>
      show tOst K f (tVar 0) (tVar i) { D with nx := tFs K l D } σ H
      refine ⟨y, h, _, h0, a, C, rfl, T, hn _ List.mem_cons_self, .inr ⟨dx, acc, e1, e2, by simp at hl; omega, ?_⟩⟩
      refine fs_old T hda h0 l ys ((f, y) :: acc) _ hr (fun q hq => hn q (List.mem_cons_of_mem _ hq)) (by simp at hl ⊢; omega) (by rw [upd_ne (Ne.symm hda)]; exact e1) upd_same fun H' g1 g2 g3 => ?_
      refine k H' g1 (by rw [g2]; simp) fun b hb => ?_
      rw [g3 b hb, upd_ne hb]
theorem fs_new {K : PySem.W.Frag} {a C : Addr} (T : OexC K C) {D : Ends} {σ : L2.St} (h0 : σ[0]? = some (some (.ref a))) (l : List (Str × Nat)) (ys : List V) (H : Hp)
    (hp : Paired (fun p y => σ[p.2]? = some (some y)) l ys) (hn : ∀ p ∈ l, PySem.W.findIn K (.ref C) p.1 = some none) (hl : l.length ≤ 900) (h1 : l ≠ []) (ea : H a = some (exo a C none))
    (k : ∀ (dx : Addr) (H' : Hp), H dx = none → dx ≠ a → H' a = some (exo a C (some dx)) → H' dx = some (exd dx ((l.map (·.1)).zip ys).reverse) → (∀ b, b ≠ a → b ≠ dx → H' b = H b) → D.nx σ H') : tFs K l D σ H := by
  cases hp with
  | nil => exact absurd rfl h1
  | @cons p y l ys h hr =>
    obtain ⟨f, i⟩ := p
    show tOst K f (tVar 0) (tVar i) { D with nx := tFs K l D } σ H
    refine ⟨y, h, _, h0, a, C, rfl, T, hn _ List.mem_cons_self, .inl ⟨ea, fun dx hd hda => ?_⟩⟩
    refine fs_old T hda h0 l ys [(f, y)] _ hr (fun q hq => hn q (List.mem_cons_of_mem _ hq)) (by simp at hl ⊢; omega) upd_same (by rw [upd_ne hda]; exact upd_same) fun H' g1 g2 g3 => ?_
    refine k dx H' hd hda g1 (by rw [g2]; simp) fun b hb hb2 => ?_
    rw [g3 b hb2, upd_ne hb, upd_ne hb2]
end
theorem pair_ix {σ : L2.St} : ∀ (fs : List Str) (ys pre : List V), fs.length = ys.length → σ = ((pre ++ ys).map some) → Paired (fun (p : Str × Nat) y => σ[p.2]? = some (some y)) (fs.zipIdx pre.length) ys
  | [], ys, pre, h, e => by
    cases ys with
    | nil => exact .nil
    | cons y ys => simp at h
  | f :: fs, ys, pre, h, e => by
    cases ys with
    | nil => simp at h
    | cons y ys =>
      simp only [List.zipIdx_cons]
      refine .cons ?_ ?_
      · show σ[pre.length]? = some (some y)
        rw [e]; simp
      · have := pair_ix fs ys (pre ++ [y]) (by simpa using h) (e.trans (by simp))
        simpa using this
theorem zipIdx_fst (fs : List Str) (k : Nat) : (fs.zipIdx k).map (·.1) = fs := by
  induction fs generalizing k with
  | nil => rfl
  | cons f fs ih => simp [ih]
section
variable {P : Program} {w : World} {K : PySem.W.Frag} {mg : Str → Option Value} {base : Heap}
/-- an error's __init__ keeps its promise -/
theorem err_init {x qual : Str} {params : Arguments} {st : Stmt} {rest : List Stmt} {scope : Scope} {dvs : List V} {f : Addr} {fd : FuncData} {fs : List Str} {C : Addr} {k : Nat} {txt : Str}
    (F : FunD K x qual params (st :: rest) scope dvs [] f fd) (S : FnScope (slf :: fs) (slf :: fs) scope) (E : ErrC K C fs) (h1 : fs ≠ []) (h9 : fs.length ≤ 900)
    (hst : ∀ X : Cx, X.K = K → X.mg = mg → X.N = slf :: fs → X.env.scope = scope → PS X st (tDrop (tVeI X.K (tCons (tVar 0) (tCons (tC (.str txt)) tNil)))))
    (has : ∀ X : Cx, X.K = K → X.N = slf :: fs → X.env.scope = scope → AsgsOk X rest (fs.zipIdx 1)) : FnG P w K mg base (k + 1) f fd (slf :: fs) (spE K C fs) := by
  refine FnG.of F S fun cdv A fr s H xs Q E' hr hx hq => ⟨_, pss_cons (hst _ rfl rfl rfl rfl) (has (cxOf (L2.CX P w) P w K mg base (slf :: fs) qual scope f cdv A fr s H E') rfl rfl rfl).run, ?_⟩
  obtain ⟨a, ws, rfl, hw, ea, hk⟩ := hq
  have e0 : L2.start (slf :: fs) (V.ref a :: ws) = (V.ref a :: ws).map some := by
    unfold L2.start
    simp [hw]
  rw [e0]
  refine ⟨.ref a, rfl, a, C, [.str txt], rfl, by simp, E.oex, ea, ?_⟩
  refine fs_new E.oex rfl (fs.zipIdx 1) ws H (pair_ix fs ws [.ref a] hw.symm rfl) (fun p hp => E.no _ ?_) (by simpa using h9) (by simpa using h1) ea fun dx H' d1 d2 d3 d4 d5 => ?_
  · have : p.1 ∈ (fs.zipIdx 1).map (·.1) := List.mem_map_of_mem hp
    rwa [zipIdx_fst] at this
  · rw [zipIdx_fst] at d4
    exact hk dx H' d1 d2 d3 d4 d5
end

theorem look_zip {α : Type} : ∀ (ps : List Str) (us : List α), ps.Nodup → us.length = ps.length → ∀ (pre : List (Str × α)), (∀ p ∈ pre, p.1 ∉ ps) → ps.mapM (fun n => (pre ++ ps.zip us).lookup n) = some us
  | [], us, _, h, _, _ => by
    cases us with
    | nil => rfl
    | cons u us => simp at h
  | p :: ps, us, hn, h, pre, hp => by
    cases us with
    | nil => simp at h
    | cons u us =>
      have h1 : (pre ++ (p :: ps).zip (u :: us)).lookup p = some u := by
        have : ∀ (l : List (Str × α)), (∀ q ∈ l, q.1 ≠ p) → (l ++ (p, u) :: ps.zip us).lookup p = some u := by
          intro l
          induction l with
          | nil => intro _; simp
          | cons q l ih =>
            intro hq
            obtain ⟨k, z⟩ := q
            have hk : (p == k) = false := by
              have := hq (k, z) List.mem_cons_self
              simpa using Ne.symm this
            simp only [List.cons_append, List.lookup_cons, hk]
            exact ih fun r hr => hq r (List.mem_cons_of_mem _ hr)
        exact this pre fun q hq z => hp q hq (z ▸ List.mem_cons_self)
      have hn' := List.nodup_cons.mp hn
      have h2 := look_zip ps us hn'.2 (by simpa using h) (pre ++ [(p, u)]) fun q hq => by
        rcases List.mem_append.mp hq with h | h
        · exact fun z => hp q h (List.mem_cons_of_mem _ z)
        · rw [List.mem_singleton] at h
          rw [h]
          exact hn'.1
      rw [List.mapM_cons, h1]
      have e : pre ++ [(p, u)] ++ ps.zip us = pre ++ (p :: ps).zip (u :: us) := by simp
      rw [e] at h2
      show (do let r ← List.mapM (fun n => (pre ++ (p :: ps).zip (u :: us)).lookup n) ps; pure (u :: r)) = some (u :: us)
      rw [h2]
      rfl
theorem bindL_all {α : Type} {ps : List Str} {us : List α} (hn : ps.Nodup) (h : us.length = ps.length) : bindL ps us [] [] = some us := by
  unfold bindL
  rw [if_pos ⟨by omega, by simp, hn, rfl⟩]
  have := look_zip ps us hn h [] (by simp)
  simpa [fillD] using this

theorem RelMs.rev {ρ : List Addr} {K : PySem.W.Frag} {H : Hp} : ∀ {xs : List MV} {vs : List V}, RelMs ρ K H xs vs → RelMs ρ K H xs.reverse vs.reverse
  | [], vs, h => by
    unfold RelMs at h
    subst h
    exact .nil
  | x :: xs, vs, h => by
    obtain ⟨v, r, rfl, a, b⟩ := h.uncons
    rw [List.reverse_cons, List.reverse_cons]
    exact (RelMs.rev b).append (.cons a .nil)
theorem relF_zip {ρ : List Addr} {K : PySem.W.Frag} {H : Hp} {efs : List Str} {vs : List MV} {us : List V} (hl : vs.length = efs.length) (r : RelMs ρ K H vs us) : RelF ρ K H (efs.zip vs).reverse (efs.zip us).reverse := by
  have hu : us.length = efs.length := by rw [← r.length]; exact hl
  refine ⟨?_, ?_⟩
  · rw [List.map_reverse, List.map_reverse, List.map_fst_zip (by omega), List.map_fst_zip (by omega)]
  · rw [List.map_reverse, List.map_reverse, List.map_snd_zip (by omega), List.map_snd_zip (by omega)]
    exact RelMs.rev r
/-- an error's class, its __init__, at a place -/
def GErr (k : Nat) (P : Program) (w : World) (K : PySem.W.Frag) (mg : Str → Option Value) (base : Heap) (C : Addr) (fs : List Str) : Prop :=
  ErrC K C fs ∧ (slf :: fs).Nodup ∧ fs.length ≤ 900 ∧ ∃ x qual body scope fd, DefAt K (He.ma K C "__init__") x qual body scope (slf :: fs) [] fd ∧ FnG P w K mg base k (He.ma K C "__init__") fd (slf :: fs) (spE K C fs)
end Mir
set_option Elab.async false
set_option linter.all false
set_option maxRecDepth 100000
set_option maxHeartbeats 4000000
/-! MRun: the program's own calls, from the mirror's. -/
namespace Mir
open PySem L2
/-- a def at a place, and what it keeps one level below -/
def GOk (T : Prog) (n : Nat) (P : Program) (w : World) (K : PySem.W.Frag) (mg : Str → Option Value) (base : Heap) (a : Addr) (d : FDef) : Prop :=
  ∃ x qual body scope fd, DefAt K a x qual body scope d.ps d.dfl fd ∧ ∀ m, n = m + 1 → FnG P w K mg base (2 * m + 4) a fd d.ps (spM K d.ps.length (runD (T.calls (callF T m)) d))
structure Txt (T : Prog) (n : Nat) (P : Program) (w : World) (K : PySem.W.Frag) (mg : Str → Option Value) (base : Heap) : Prop where
  glo : ∀ x d, T.fns.lookup (x, none) = some d → mg x = some (.ref (He.ga K x)) ∧ GOk T n P w K mg base (He.ga K x) d
  cls : ∀ C, T.clss.contains C = true → Cls K (He.ga K C) ∧ mg C = some (.ref (He.ga K C)) ∧ Mk K (He.ga K C) (He.ma K (He.ga K C) "__init__")
  mth : ∀ C m d, T.clss.contains C = true → T.props.contains (C, m) = false → T.fns.lookup (C, some m) = some d → Meth K (He.ga K C) m (He.ma K (He.ga K C) m) ∧ GOk T n P w K mg base (He.ma K (He.ga K C) m) d
  prp : ∀ C f d, T.clss.contains C = true → T.props.contains (C, f) = true → T.fns.lookup (C, some f) = some d → ∃ p g, PropOf K (He.ga K C) f p g ∧ GOk T n P w K mg base g d
  exn : ∀ C fs, T.exf.lookup C = some fs → fs ≠ [] → mg C = some (.ref (He.ga K C)) ∧ GErr 2 P w K mg base (He.ga K C) fs
  err : ∀ C, T.errs.contains C = true → mg C = some (.ref (He.ga K C)) ∧ (PySem.W.subIn K (.ref (He.ga K C)) (.type "BaseException") = some true)
  sub : ∀ C fs D, T.exf.lookup C = some fs → fs ≠ [] → T.errs.contains D = true → PySem.W.exmOne K (.ref (He.ga K C)) (.ref (He.ga K D)) = some (C == D || T.subs.contains (C, D)) ∧ PySem.W.kitOne K (.ref (He.ga K C)) (.ref (He.ga K D)) = some (C == D || T.subs.contains (C, D))
  fld : ∀ C f, T.clss.contains C = true → T.flds.contains (C, f) = true → NoAttr K (He.ga K C) f
  glb : ∀ x v, T.glb.lookup x = some v → ∃ u xv, mg x = some u ∧ RelV xv u ∧ ∀ ρ H, RelM ρ K H v xv
def freeNames : List Str := ["len", "abs", "min", "max", "sum", "int", "str", "repr", "all", "any", "list", "tuple", "bool", "dict", "set", "isinstance", "range", "enumerate", "zip", "sorted", "reversed"]
structure Snd (T : Prog) (n : Nat) (X : Cx) (Wx : WL) : Prop where
  nd : X.N.Nodup
  room : RG (2 * n + 3) X.A
  calm : X.calm = true
  sys : ∃ o, X.K.lookup sysModules = some o ∧ o.cls = .type "dict"
  tk : Takes X Wx.x
  free : ∀ x ∈ freeNames, X.mg x = none
  txt : Txt T n X.prog X.w X.K X.mg X.base
theorem Snd.cx {T : Prog} {n : Nat} {X : Cx} {Wx : WL} (s : Snd T n X Wx) : CtxOk X := ⟨s.nd, s.room.gd, by have := s.room.room.un; omega, s.calm, s.sys⟩
section
variable {T : Prog} {n : Nat} {X : Cx} {Wx : WL} {pins : List (Addr × Obj)} {σ : L2.St} {H : Hp} {s : Shared} {ρ : List Addr} {W : Wd} {Q : VK}
/-- a def of the text, its arguments bound: whatever is around -/
theorem core_g {P : Program} {w : World} {K : PySem.W.Frag} {mg : Str → Option Value} {base : Heap} {A : Around} {fr : List PySem.Env} {E : XK} {k : Nat} {a : Addr} {x qual : Str} {body : List Stmt} {scope : Scope} {ps : List Str} {dfl : List MV} {fd : FuncData} {g : List MV → M MV} {vs kvs as : List MV} {ks : List Str} {xs ys : List V} {us ws : List Value}
    (hr : RG k A) (D : DefAt K a x qual body scope ps dfl fd) (F : FnG P w K mg base k a fd ps (spM K ps.length g)) (e0 : Env0 P w K mg base A fr s H) (hk : K.In s.heap)
    (S : SimW ρ K W H) (r1 : RelMs ρ K H vs xs) (v1 : Vals xs us) (r2 : RelMs ρ K H kvs ys) (v2 : Vals ys ws)
    (hb : bindL ps vs (ks.zip kvs) dfl = some as) (p : PostC ρ K H Q E (g as W)) : codeAny (model P w) A (.call (.ref a) ⟨us, ks.zip ws⟩) (CR (L2.CX P w) fr P w H s Q E) s := by
  obtain ⟨ar, ds, dvs, ha, hd, FD⟩ := D.ex
  obtain ⟨oc, od, dV, kV, doc, pm, an, cdv, ct, osl, rfl, lk, hcd, hD, _⟩ := FD.ex
  have dts : ∃ its : List Value, Vals dvs its ∧ ((its = [] ∧ dV = .none) ∨ ∃ (T : Addr) (o : Obj) (m : Nat), dV = .ref T ∧ s.heap.get? T = some o ∧ o.data = .seq its.toArray m) := by
    rcases hD with ⟨rfl, e⟩ | ⟨_, T, o, its, m, e1, e2, e3, e4⟩
    · exact ⟨[], .nil, .inl ⟨rfl, e⟩⟩
    · exact ⟨its, e4, .inr ⟨T, o, m, e1, hk _ _ e2, e3⟩⟩
  obtain ⟨its, vd, hits⟩ := dts
  obtain ⟨us', hb', pr⟩ := bind_rel (R := RelU ρ K H) (relU_all r1 v1) (pairK_zip2 ks (relU_all r2 v2)) (relU_all (hd ρ H) vd) hb
  obtain ⟨xs', ra, va⟩ := relU_split pr
  have B := bind_ok (s := s) (fd := PySem.W.fnOf x qual { posonlyargs := [], args := ar, vararg := none, kwonlyargs := [], kw_defaults := [], kwarg := none, defaults := ds } body scope dV kV doc pm an cdv ct) (dflts := ds) rfl ha hits hb'
  have hl : as.length = ps.length := by
    unfold bindL at hb
    split at hb
    · have : ∀ {f : Str → Option MV} {l : List Str} {r : List MV}, l.mapM f = some r → r.length = l.length := by
        intro f l
        induction l with
        | nil => intro r e; cases e; rfl
        | cons y l ih => intro r e; obtain ⟨z, r', _, e2, rfl⟩ := mapM_cons_some e; simp [ih e2]
      exact this hb
    · cases hb
  have hx : us'.length = ps.length := by rw [← Paired.len pr]; exact hl
  exact F.run A fr s H ⟨us, ks.zip ws⟩ us' xs' Q E hr e0 B hx va ⟨ρ, W, as, hl, S, ra, p⟩
theorem PostC.of {E : XK} {r : Res MV} {K : PySem.W.Frag} (h : PostR (rV K) K Wx σ ρ H Q r) (he : ∀ c d H', Wx c d σ H' → E c d H') : PostC ρ K H Q E r := by
  cases r with
  | ok v w => exact h
  | err x w => exact fun ρ' H' c d u s r => he _ _ _ (h ρ' H' c d u s r)
  | bad => exact h
/-- .. from a body -/
theorem run_g {k : Nat} {a : Addr} {x qual : Str} {body : List Stmt} {scope : Scope} {ps : List Str} {dfl : List MV} {fd : FuncData} {g : List MV → M MV} {vs kvs as : List MV} {ks : List Str} {xs ys : List V} {us ws : List Value}
    (tk : Takes X Wx.x) (hr : RG k X.A) (D : DefAt X.K a x qual body scope ps dfl fd) (F : FnG X.prog X.w X.K X.mg X.base k a fd ps (spM X.K ps.length g))
    (I : Inv X pins σ H s) (S : SimW ρ X.K W H) (r1 : RelMs ρ X.K H vs xs) (v1 : Vals xs us) (r2 : RelMs ρ X.K H kvs ys) (v2 : Vals ys ws)
    (hb : bindL ps vs (ks.zip kvs) dfl = some as) (p : PostR (rV X.K) X.K Wx σ ρ H Q (g as W)) :
    wpAny (model X.prog X.w) X.A (call (.ref a) us (ks.zip ws)) (EP X pins σ Q) X.xe s := by
  refine wpAny_call (codeAny_mono (core_g (E := fun c d H' => Wx c d σ H') hr D F I.env0 I.kIn S r1 v1 r2 v2 hb (PostC.of p fun _ _ _ h => h)) fun r s' hq => ?_)
  cases r with
  | error e => exact tk e s' (XE.of_call I (fun cls d H' h => h) hq)
  | ok fl =>
    cases fl with
    | ret u => exact I.after hq
    | next => exact False.elim hq
    | brk => exact False.elim hq
    | cont => exact False.elim hq
/-- by the level -/
theorem run_call {a : Addr} {f : Fid} {d : FDef} {vs kvs : List MV} {ks : List Str} {xs ys : List V} {us ws : List Value} (sd : Snd T n X Wx) (hf : T.fns.lookup f = some d) (G : GOk T n X.prog X.w X.K X.mg X.base a d)
    (I : Inv X pins σ H s) (S : SimW ρ X.K W H) (r1 : RelMs ρ X.K H vs xs) (v1 : Vals xs us) (r2 : RelMs ρ X.K H kvs ys) (v2 : Vals ys ws) (p : PostR (rV X.K) X.K Wx σ ρ H Q (callF T n f vs (ks.zip kvs) W)) :
    wpAny (model X.prog X.w) X.A (call (.ref a) us (ks.zip ws)) (EP X pins σ Q) X.xe s := by
  obtain ⟨x, qual, body, scope, fd, D, F⟩ := G
  cases n with
  | zero => exact p.elim
  | succ m =>
    unfold callF at p
    rw [hf] at p
    dsimp only at p
    cases e : bindL d.ps vs (ks.zip kvs) d.dfl with
    | none => rw [e] at p; exact p.elim
    | some as =>
      rw [e] at p
      exact run_g sd.tk (sd.room.mono (by omega)) D (F m rfl) I S r1 v1 r2 v2 e p
end
end Mir
set_option Elab.async false
set_option linter.all false
set_option maxRecDepth 100000
set_option maxHeartbeats 4000000
/-! MExpr2: expressions, further. -/
namespace Mir
open PySem L2
section
variable {X : Cx} {Wx : WL} {a b d o : Expr} {es : List Expr} {fa fb fd : Env → M MV} {fs : Env → M (List MV)} {ft : Env → M Bool} {pos : Pos}
theorem me_neg (ha : PE X a (tM X.K Wx fa)) : PE X (.UnaryOp .USub a pos) (tM X.K Wx fun S => bnd (fa S) fun v => unM .USub v) := by
  refine pe_wk (pe_un un_neg ha) fun σ H Q ⟨ρ, S, W, r, s, p⟩ => ?_
  refine (tM_bnd (R := rV X.K) (m := fa) r s p).elim fun ρ0 ⟨S0, W0, r0, s0, p0⟩ => ⟨ρ0, S0, W0, r0, s0, ?_⟩
  cases e1 : fa S0 W0 with
  | ok v W1 =>
    rw [e1] at p0
    intro ρ1 H1 u u1 s1 r1
    obtain ⟨v2, ρ2, W2, e2, u2, s2, r2, p2⟩ := p0 ρ1 H1 u u1 s1 r1
    cases v2 with
    | int i =>
      have r3 : RelM ρ2 X.K H1 (.int i) u := r2
      unfold RelM at r3; subst r3
      exact ⟨i, rfl, p2.now s2 (by unfold RelM; rfl)⟩
    | _ => exact p2.elim
  | err x W1 => rw [e1] at p0; exact p0
  | bad => rw [e1] at p0; exact p0.elim
/-- the reading of a first step, opened -/
theorem tM_then {α β α' β' : Type} {R : Rl α β} {R' : Rl α' β'} {K : PySem.W.Frag} {m : Env → M α} {f : α → Env → M α'} {Q' : β' → Hp → Prop} {Q : β → Hp → Prop} {σ : L2.St} {H : Hp}
    (h : tMR R' K Wx (fun S => bnd (m S) fun v => f v S) σ H Q')
    (k : ∀ ρ S W v u H1, RelS Wx.e ρ K H1 S σ → SimW ρ K W H1 → R ρ H1 v u → PostR R' K Wx σ ρ H1 Q' (f v S W) → Q u H1) : tMR R K Wx m σ H Q := by
  obtain ⟨ρ, S, W, r, s, p⟩ := h
  refine ⟨ρ, S, W, r, s, ?_⟩
  have p : PostR R' K Wx σ ρ H Q' (bnd (m S) (fun v => f v S) W) := p
  unfold bnd at p
  cases e1 : m S W with
  | ok v W1 =>
    rw [e1] at p
    intro ρ1 H1 u u1 s1 r1
    exact k ρ1 S W1 v u H1 (r.up u1) s1 r1 (tM_up u1 p)
  | err x W1 => rw [e1] at p; exact p
  | bad => rw [e1] at p; exact p.elim
theorem me_not (ha : PE X a (tM X.K Wx fa)) : PE X (.UnaryOp .Not a pos) (tM X.K Wx fun S => bnd (fa S) fun v => unM .Not v) := by
  refine pe_wk (pe_notT ha) fun σ H Q h => ?_
  refine tM_then (R := rV X.K) (f := fun v _ => unM .Not v) h fun ρ S W v u H1 r s r1 p => ?_
  simp only [unM, bnd] at p
  cases e : truM v W with
  | ok k W2 =>
    rw [e] at p
    obtain ⟨rfl, tv⟩ := tru_ok' s r1 e
    exact ⟨k, tv, p.now s (by unfold RelM; rfl)⟩
  | err x w => exact absurd e (tru_no _ _ _ _)
  | bad => rw [e] at p; exact p.elim
theorem me_and {rest : List Expr} (ha : PE X a (tM X.K Wx fa)) (hb : PE X (.BoolOp .And (b :: rest) pos) (tM X.K Wx fb)) :
    PE X (.BoolOp .And (a :: b :: rest) pos) (tM X.K Wx fun S => bnd (fa S) fun v => bnd (truM v) fun t => if t = true then fb S else ret v) := by
  refine pe_wk (pe_andT ha hb) fun σ H Q h => ?_
  refine tM_then (R := rV X.K) (f := fun v S => bnd (truM v) fun t => if t = true then fb S else ret v) h fun ρ S W v u H1 r s r1 p => ?_
  simp only [bnd] at p
  cases e : truM v W with
  | ok k W2 =>
    rw [e] at p
    obtain ⟨rfl, tv⟩ := tru_ok' s r1 e
    refine ⟨k, tv, ?_⟩
    cases k with
    | true => exact ⟨ρ, S, W2, r, s, p⟩
    | false => exact p.now s r1
  | err x w => exact absurd e (tru_no _ _ _ _)
  | bad => rw [e] at p; exact p.elim
theorem me_or {rest : List Expr} (ha : PE X a (tM X.K Wx fa)) (hb : PE X (.BoolOp .Or (b :: rest) pos) (tM X.K Wx fb)) :
    PE X (.BoolOp .Or (a :: b :: rest) pos) (tM X.K Wx fun S => bnd (fa S) fun v => bnd (truM v) fun t => if t = true then ret v else fb S) := by
  refine pe_wk (pe_orT ha hb) fun σ H Q h => ?_
  refine tM_then (R := rV X.K) (f := fun v S => bnd (truM v) fun t => if t = true then ret v else fb S) h fun ρ S W v u H1 r s r1 p => ?_
  simp only [bnd] at p
  cases e : truM v W with
  | ok k W2 =>
    rw [e] at p
    obtain ⟨rfl, tv⟩ := tru_ok' s r1 e
    refine ⟨k, tv, ?_⟩
    cases k with
    | true => exact p.now s r1
    | false => exact ⟨ρ, S, W2, r, s, p⟩
  | err x w => exact absurd e (tru_no _ _ _ _)
  | bad => rw [e] at p; exact p.elim
theorem me_ite (hc : PT X d (tMb X.K Wx ft)) (ha : PE X a (tM X.K Wx fa)) (hb : PE X b (tM X.K Wx fb)) :
    PE X (.IfExp d a b pos) (tM X.K Wx fun S => bnd (ft S) fun t => if t = true then fa S else fb S) := by
  refine pe_wk (pe_ifExp hc ha hb) fun σ H Q h => ?_
  refine tM_then (R := rB) (f := fun t S => if t = true then fa S else fb S) h fun ρ S W v u H1 r s r1 p => ?_
  have e : v = u := r1
  subst e
  cases v with
  | true => exact ⟨ρ, S, W, r, s, p⟩
  | false => exact ⟨ρ, S, W, r, s, p⟩
/-! ### tests -/
theorem mt_not (ha : PT X a (tMb X.K Wx ft)) : PT X (.UnaryOp .Not a pos) (tMb X.K Wx fun S => bnd (ft S) fun k => ret (!k)) := by
  refine pt_wk (pt_not ha) fun σ H Q h => ?_
  refine tM_then (R := rB) (f := fun t _ => ret (!t)) h fun ρ S W v u H1 r s r1 p => ?_
  have e : v = u := r1
  subst e
  exact p.now s rfl
theorem mw_and {rest : List Expr} {fu : Env → M Bool} (ha : PT X a (tMb X.K Wx ft)) (hb : PW X (.BoolOp .And (b :: rest) pos) (tMb X.K Wx fu)) :
    PW X (.BoolOp .And (a :: b :: rest) pos) (tMb X.K Wx fun S => bnd (ft S) fun k => if k = true then fu S else ret false) := by
  refine pw_wk (pw_and ha hb) fun σ H Q h => ?_
  refine tM_then (R := rB) (f := fun k S => if k = true then fu S else ret false) h fun ρ S W v u H1 r s r1 p => ?_
  have e : v = u := r1
  subst e
  cases v with
  | true => exact ⟨ρ, S, W, r, s, p⟩
  | false => exact p.now s rfl
theorem mw_or {rest : List Expr} {fu : Env → M Bool} (ha : PT X a (tMb X.K Wx ft)) (hb : PW X (.BoolOp .Or (b :: rest) pos) (tMb X.K Wx fu)) :
    PW X (.BoolOp .Or (a :: b :: rest) pos) (tMb X.K Wx fun S => bnd (ft S) fun k => if k = true then ret true else fu S) := by
  refine pw_wk (pw_or ha hb) fun σ H Q h => ?_
  refine tM_then (R := rB) (f := fun k S => if k = true then ret true else fu S) h fun ρ S W v u H1 r s r1 p => ?_
  have e : v = u := r1
  subst e
  cases v with
  | true => exact p.now s rfl
  | false => exact ⟨ρ, S, W, r, s, p⟩

/-! ### argument lists, displays -/
theorem ms_nil : PA X [] (tMs X.K Wx fun _ => ret []) := by
  refine ⟨fun pos pins s σ H Q I ⟨ρ, S, W, r, sm, p⟩ => pa_nil.run pos pins s σ H Q I ?_⟩
  exact p.now sm .nil
theorem ms_cons (ha : PE X a (tM X.K Wx fa)) (hs : PA X es (tMs X.K Wx fs)) (he : starEach (a :: es) X.env = (false, eval a X.env) :: starEach es X.env) :
    PA X (a :: es) (tMs X.K Wx fun S => bnd (fa S) fun v => bnd (fs S) fun vs => ret (v :: vs)) := by
  refine ⟨fun pos pins s σ H Q I h => (pa_cons ha hs he).run pos pins s σ H Q I ?_⟩
  refine tM_then (R := rV X.K) (f := fun v S => bnd (fs S) fun vs => ret (v :: vs)) h fun ρ S W v u H1 r sm r1 p => ?_
  have h2 : tMR (rVs X.K) X.K Wx (fun S => bnd (fs S) fun vs => ret (v :: vs)) σ H1 Q := ⟨ρ, S, W, r, sm, p⟩
  unfold bnd at p
  refine ⟨ρ, S, W, r, sm, ?_⟩
  cases e : fs S W with
  | ok vs W2 =>
    rw [e] at p
    intro ρ2 H2 us u2 s2 r2
    exact p ρ2 H2 (u :: us) u2 s2 (RelMs.cons (r1.up u2) r2)
  | err x w => rw [e] at p; exact p
  | bad => rw [e] at p; exact p.elim
theorem me_tup {k : Nat} (hs : PA X es (tMs X.K Wx fs)) : PE X (.Tuple es k pos) (tM X.K Wx fun S => bnd (fs S) fun vs => if vs.length ≤ sizeLine then ret (.tup vs) else stuck) := by
  refine pe_wk (pe_tup hs) fun σ H Q h => ?_
  refine tM_then (R := rVs X.K) (f := fun vs _ => if vs.length ≤ sizeLine then ret (MV.tup vs) else stuck) h fun ρ S W v u H1 r s r1 p => ?_
  have r2 : RelMs ρ X.K H1 v u := r1
  split at p
  · next hl =>
    refine ⟨by rw [← r2.length]; exact hl, fun q hq => ?_⟩
    have U : Up ρ H1 ρ (upd H1 q (.tup u)) := Up.fresh0 hq
    refine p ρ _ _ U (s.fresh0 hq) ?_
    show RelM ρ X.K _ _ _
    unfold RelM
    exact ⟨q, u, rfl, .inl (.inl upd_same), r2.up U⟩
  · exact p.elim
theorem me_lst (hs : PA X es (tMs X.K Wx fs)) : PE X (.List es pos) (tM X.K Wx fun S => bnd (fs S) fun vs => if vs.length ≤ sizeLine then alloc (.lst vs) else stuck) := by
  refine pe_wk (pe_lst hs) fun σ H Q h => ?_
  refine tM_then (R := rVs X.K) (f := fun vs _ => if vs.length ≤ sizeLine then alloc (.lst vs) else stuck) h fun ρ S W v u H1 r s r1 p => ?_
  have r2 : RelMs ρ X.K H1 v u := r1
  split at p
  · next hl =>
    refine ⟨by rw [← r2.length]; exact hl, fun q hq => ?_⟩
    have p2 : PostP ρ X.K H1 Q (alloc (.lst v) W) := p
    exact p2.newL s r2 hq
  · exact p.elim

/-! ### slices -/
abbrev rI : Rl (Option Int) (Option Int) := fun _ _ a b => a = b
structure MO (X : Cx) (Wx : WL) (e : Option Expr) (m : Env → M (Option MV)) : Prop where
  po : PO X e (tMR rI X.K Wx fun S => bnd (m S) partM)
theorem part_ok {v : Option MV} {W W' : Wd} {l : Option Int} (h : partM v W = .ok l W') : W' = W := by
  cases v with
  | none => cases h; rfl
  | some v => cases v <;> first | (cases h; rfl) | cases h
theorem mo_none : MO X Wx none (fun _ => ret none) := by
  refine ⟨⟨fun pins s σ H Q I h => po_none.run pins s σ H Q I ?_⟩⟩
  obtain ⟨ρ, S, W, r, sm, p⟩ := h
  exact p.now sm rfl
theorem mo_some (ha : PE X a (tM X.K Wx fa)) : MO X Wx (some a) (fun S => bnd (fa S) fun v => ret (some v)) := by
  refine ⟨⟨fun pins s σ H Q I h => (po_some ha).run pins s σ H Q I ?_⟩⟩
  have h2 : tMR rI X.K Wx (fun S => bnd (fa S) fun v => partM (some v)) σ H Q := by
    obtain ⟨ρ, S, W, r, sm, p⟩ := h
    refine ⟨ρ, S, W, r, sm, ?_⟩
    simp only [bnd] at p ⊢
    cases e : fa S W with
    | ok v w => rw [e] at p; exact p
    | err x w => rw [e] at p; exact p
    | bad => rw [e] at p; exact p
  refine tM_then (R := rV X.K) (f := fun v _ => partM (some v)) h2 fun ρ S W v u H1 r s r1 p => ?_
  cases v with
  | int i =>
    have r3 : RelM ρ X.K H1 (.int i) u := r1
    unfold RelM at r3; subst r3
    exact ⟨i, rfl, p.now s rfl⟩
  | _ => exact p.elim
theorem me_slc {lo hi : Option Expr} {p2 : Pos} {fl fh : Env → M (Option MV)} (ha : PE X a (tM X.K Wx fa)) (hl : MO X Wx lo fl) (hh : MO X Wx hi fh) :
    PE X (.Subscript a (.Slice lo hi none p2) pos) (tM X.K Wx fun S => bnd (fa S) fun v => bnd (fl S) fun l => bnd (partM l) fun lo => bnd (fh S) fun h => bnd (partM h) fun hi => slcM lo hi v) := by
  refine pe_dyn fun ρ S W σ H Q r s p => ?_
  simp only [bnd] at p
  have mk : ∀ {t : V → Option Int → Option Int → Hp → VK → Prop}, SlR X t → PE X (.Subscript a (.Slice lo hi none p2) pos) (tSl t (tM X.K Wx fa) (tMR rI X.K Wx fun S => bnd (fl S) partM) (tMR rI X.K Wx fun S => bnd (fh S) partM)) := fun ht => pe_slice ht ha hl.po hh.po
  cases h1 : fa S W with
  | err x W1 => rw [h1] at p; exact ⟨_, mk sl_no, tM_err r s h1 p⟩
  | bad => rw [h1] at p; exact p.elim
  | ok v W1 =>
    rw [h1] at p
    dsimp only at p
    cases h2 : fl S W1 with
    | err x W2 => rw [h2] at p; exact ⟨_, mk sl_no, tM_ok r s h1 fun ρ1 H1 x1 u1 s1 r1 => tM_err (r.up u1) s1 (by simp only [bnd, h2]) (fun ρ2 H2 c d u2 => p ρ2 H2 c d (u1.trans u2))⟩
    | bad => rw [h2] at p; exact p.elim
    | ok l W2 =>
      rw [h2] at p
      dsimp only at p
      cases h3 : partM l W2 with
      | err x W3 => cases l with
        | none => cases h3
        | some v => cases v <;> cases h3
      | bad => rw [h3] at p; exact p.elim
      | ok lo' W3 =>
        have e3 := part_ok h3
        subst e3
        rw [h3] at p
        dsimp only at p
        have hl' : bnd (fl S) partM W1 = .ok lo' W3 := by simp only [bnd, h2, h3]
        cases h4 : fh S W3 with
        | err x W4 => rw [h4] at p; exact ⟨_, mk sl_no, tM_ok r s h1 fun ρ1 H1 x1 u1 s1 r1 => tM_ok (r.up u1) s1 hl' fun ρ2 H2 x2 u2 s2 r2 => tM_err (r.up (u1.trans u2)) s2 (by simp only [bnd, h4]) (fun ρ3 H3 c d u3 => p ρ3 H3 c d ((u1.trans u2).trans u3))⟩
        | bad => rw [h4] at p; exact p.elim
        | ok h W4 =>
          rw [h4] at p
          dsimp only at p
          cases h5 : partM h W4 with
          | err x W3 => cases h with
            | none => cases h5
            | some v => cases v <;> cases h5
          | bad => rw [h5] at p; exact p.elim
          | ok hi' W5 =>
            have e5 := part_ok h5
            subst e5
            rw [h5] at p
            dsimp only at p
            have hh' : bnd (fh S) partM W3 = .ok hi' W5 := by simp only [bnd, h4, h5]
            obtain ⟨t, ht, hr⟩ := slc_ok (X := X) lo' hi' v W5
            refine ⟨_, mk ht, tM_ok r s h1 fun ρ1 H1 x1 u1 s1 r1 => tM_ok (r.up u1) s1 hl' fun ρ2 H2 x2 u2 s2 r2 => tM_ok (r.up (u1.trans u2)) s2 hh' fun ρ3 H3 x3 u3 s3 r3 => ?_⟩
            have e2 : lo' = x2 := r2
            have e3 : hi' = x3 := r3
            subst e2 e3
            refine hr ρ3 H3 x1 Q s3 (RelM.up (u2.trans u3) r1) ?_
            exact (tM_up ((u1.trans u2).trans u3) p).toP (slc_no _ _ _ _)
end
end Mir
set_option Elab.async false
set_option linter.all false
set_option maxRecDepth 100000
set_option maxHeartbeats 4000000
/-! MExpr3: what is walked; comprehensions. -/
namespace Mir
open PySem L2
def ItRel (ρ : List Addr) (K : PySem.W.Frag) (H : Hp) : Itm → It → Prop
  | .cell n _, J => ∃ p, ρ[n]? = some p ∧ J = Itl K p
  | .tup xs, J => ∃ p vs, J = Itt K p ∧ SqT K H p vs ∧ RelMs ρ K H xs vs
  | .str cs, J => ∃ x : Str, J = L2.Its x ∧ x.cps.toList = cs
  | .rng lo n, J => J = Itr lo n
theorem ItRel.up {ρ ρ' : List Addr} {K : PySem.W.Frag} {H H' : Hp} {I : Itm} {J : It} (u : Up ρ H ρ' H') (h : ItRel ρ K H I J) : ItRel ρ' K H' I J := by
  cases I with
  | cell n l => obtain ⟨p, a, b⟩ := h; exact ⟨p, u.pre _ _ a, b⟩
  | tup xs => obtain ⟨p, vs, a, b, c⟩ := h; exact ⟨p, vs, a, u.sqT b, c.up u⟩
  | str cs => exact h
  | rng lo n => exact h
abbrev rIt (K : PySem.W.Frag) : Rl Itm It := fun ρ H I J => ItRel ρ K H I J
abbrev iM (K : PySem.W.Frag) (Wx : WL) (m : Env → M Itm) : TI := tMR (rIt K) K Wx m
section
variable {K : PySem.W.Frag} {ρ : List Addr} {H : Hp} {W : Wd} {I : Itm} {J : It} {i : Nat}
theorem it_go {v : MV} (S : SimW ρ K W H) (r : ItRel ρ K H I J) (h : I.at W i = some v) : J.go i H ∧ ∀ x H', J.yld i H x H' → H' = H ∧ RelM ρ K H v x := by
  cases I with
  | cell n l =>
    obtain ⟨p, ep, rfl⟩ := r
    have go : ∀ {xs : List MV} {vs : List V}, SqL K H p vs → RelMs ρ K H xs vs → xs[i]? = some v → (Itl K p).go i H ∧ ∀ x H', (Itl K p).yld i H x H' → H' = H ∧ RelM ρ K H v x := by
      intro xs vs h1 q e
      obtain ⟨u, e1, e2⟩ := q.get e
      refine ⟨⟨vs, u, h1, e1⟩, fun x H' y => ?_⟩
      obtain ⟨z1, z2⟩ := y
      have := z2 vs h1
      rw [e1] at this; cases this
      exact ⟨z1, e2⟩
    simp only [Itm.at] at h
    split at h
    · next xs e =>
      split at h
      · obtain ⟨vs, a, b⟩ := S.lst e ep; exact go (SqL.of a) b h
      · cases h
    · next xs e =>
      split at h
      · obtain ⟨vs, a, b⟩ := S.rdl e ep; exact go a b h
      · cases h
    · cases h
  | tup xs =>
    obtain ⟨p, vs, rfl, a, b⟩ := r
    obtain ⟨u, e1, e2⟩ := b.get h
    refine ⟨⟨vs, u, a, e1⟩, fun x H' y => ?_⟩
    obtain ⟨z1, z2⟩ := y
    have := z2 vs a
    rw [e1] at this; cases this
    exact ⟨z1, e2⟩
  | str cs =>
    obtain ⟨x, rfl, e⟩ := r
    simp only [Itm.at, Option.map_eq_some_iff] at h
    obtain ⟨c, h, rfl⟩ := h
    rw [← e, Array.getElem?_toList] at h
    refine ⟨(Array.getElem?_eq_some_iff.mp h).1, fun y H' z => ?_⟩
    obtain ⟨z1, c', z2, z3⟩ := z
    rw [h] at z2; cases z2
    exact ⟨z1, by unfold RelM; exact z3⟩
  | rng lo n =>
    subst r
    simp only [Itm.at] at h
    split at h
    · next hi => cases h; exact ⟨hi, fun x H' y => ⟨y.1, by unfold RelM; exact y.2⟩⟩
    · cases h
theorem it_stop (S : SimW ρ K W H) (r : ItRel ρ K H I J) (h : I.fin W = true) (hi : I.len ≤ i) : J.stop i H := by
  cases I with
  | cell n l =>
    obtain ⟨p, ep, rfl⟩ := r
    simp only [Itm.fin] at h
    simp only [Itm.len] at hi
    split at h
    · next xs e =>
      obtain ⟨vs, a, b⟩ := S.lst e ep
      have := beq_iff_eq.mp h
      exact ⟨vs, SqL.of a, by rw [← b.length]; omega⟩
    · next xs e =>
      obtain ⟨vs, a, b⟩ := S.rdl e ep
      have := beq_iff_eq.mp h
      exact ⟨vs, a, by rw [← b.length]; omega⟩
    · cases h
  | tup xs =>
    obtain ⟨p, vs, rfl, a, b⟩ := r
    exact ⟨vs, a, by rw [← b.length]; exact hi⟩
  | str cs =>
    obtain ⟨x, rfl, e⟩ := r
    subst e
    show x.cps.size ≤ i
    simpa [Itm.len] using hi
  | rng lo n => subst r; exact hi
end
section
variable {X : Cx} {Wx : WL} {tg e a elt : Expr} {fa : Env → M MV}
theorem pi_dyn {m : Env → M Itm} (h : ∀ ρ S W σ H R, RelS Wx.e ρ X.K H S σ → SimW ρ X.K W H → PostR (rIt X.K) X.K Wx σ ρ H R (m S W) → ∃ t, PI X tg e t ∧ t σ H R) : PI X tg e (iM X.K Wx m) := by
  refine ⟨fun pins s σ H R I q => ?_⟩
  obtain ⟨ρ, S, W, r, sm, p⟩ := q
  obtain ⟨t, h1, h2⟩ := h ρ S W σ H R r sm p
  exact h1.run pins s σ H R I h2
theorem mi_any (ha : PE X e (tM X.K Wx fa)) : PI X tg e (iM X.K Wx fun S => bnd (fa S) itmM) := by
  refine pi_dyn fun ρ S W σ H R r s p => ?_
  simp only [bnd] at p
  cases h1 : fa S W with
  | err x W1 => rw [h1] at p; exact ⟨_, pi_list ha, tM_err r s h1 p⟩
  | bad => rw [h1] at p; exact p.elim
  | ok v W1 =>
    rw [h1] at p
    cases v with
    | ref n =>
      refine ⟨_, pi_list ha, tM_ok r s h1 fun ρ1 H1 x u1 s1 r1 => ?_⟩
      have r2 : RelM ρ1 X.K H1 (.ref n) x := r1
      unfold RelM at r2
      obtain ⟨q, rfl, eq⟩ := r2
      have p2 := tM_up u1 p
      simp only [itmM] at p2
      split at p2
      · next xs e1 =>
        obtain ⟨vs, a1, b1⟩ := s1.lst e1 eq
        exact ⟨q, rfl, ⟨vs, SqL.of a1⟩, p2.now s1 ⟨q, eq, rfl⟩⟩
      · next xs e1 =>
        obtain ⟨vs, a1, b1⟩ := s1.rdl e1 eq
        exact ⟨q, rfl, ⟨vs, a1⟩, p2.now s1 ⟨q, eq, rfl⟩⟩
      · exact p2.elim
    | tup xs =>
      refine ⟨_, pi_tup ha, tM_ok r s h1 fun ρ1 H1 x u1 s1 r1 => ?_⟩
      have r2 : RelM ρ1 X.K H1 (.tup xs) x := r1
      unfold RelM at r2
      obtain ⟨q, vs, rfl, a1, b1⟩ := r2
      have p2 := tM_up u1 p
      exact ⟨q, rfl, ⟨vs, a1⟩, p2.now s1 ⟨q, vs, rfl, a1, b1⟩⟩
    | str z =>
      refine ⟨_, pi_str ha, tM_ok r s h1 fun ρ1 H1 x u1 s1 r1 => ?_⟩
      have r2 : RelM ρ1 X.K H1 (.str z) x := r1
      unfold RelM at r2
      subst r2
      have p2 := tM_up u1 p
      exact ⟨z, rfl, p2.now s1 ⟨z, rfl, rfl⟩⟩
    | _ => exact p.elim
theorem mi_rng {p0 pos : Pos} (ha : PE X a (tM X.K Wx fa)) (hg : Gl X "range") (hm : X.mg "range" = none) (he : starEach [a] X.env = [(false, eval a X.env)]) : PI X tg (.Call (.Name "range" p0) [a] [] pos) (iM X.K Wx fun S => bnd (fa S) rngM) := by
  have hs : PA X [a] (tMs X.K Wx fun S => bnd (fa S) fun v => bnd (ret []) fun vs => ret (v :: vs)) := ms_cons ha ms_nil he
  refine pi_dyn fun ρ S W σ H R r s p => ⟨_, pi_range1 hg hm hs he, ?_⟩
  refine ⟨ρ, S, W, r, s, ?_⟩
  simp only [bnd] at p ⊢
  cases h1 : fa S W with
  | err x W1 => rw [h1] at p; exact p
  | bad => rw [h1] at p; exact p.elim
  | ok v W1 =>
    rw [h1] at p
    intro ρ1 H1 us u1 s1 r1
    obtain ⟨x, rfl, r2⟩ := RelMs.one (show RelMs ρ1 X.K H1 [v] us from r1)
    cases v with
    | int j =>
      unfold RelM at r2; subst r2
      dsimp only at p
      simp only [rngM] at p
      split at p
      · next hj => exact ⟨j, rfl, hj.1, hj.2, (tM_up u1 p).now s1 rfl⟩
      · exact p.elim
    | _ => exact p.elim

/-! ### comprehensions -/
theorem comp_rd {it : Env → M Itm} {ft : Env → M Bool} {fe : Env → M MV} {i : Nat} {σ : L2.St} {H : Hp} {Q : VK}
    (h : tM X.K Wx (fun S => bnd (it S) fun I => compM I fun x => bnd (ft (S.set i (some x))) fun t => if t = true then bnd (fe (S.set i (some x))) fun y => ret (some y) else ret none) σ H Q) :
    tLc (iM X.K Wx it) (gName i) (tMb X.K noL ft) (tM X.K noL fe) [i] σ H Q := by
  refine tM_then (R := rIt X.K) (R' := rV X.K) (f := fun I S => compM I fun x => bnd (ft (S.set i (some x))) fun t => if t = true then bnd (fe (S.set i (some x))) fun y => ret (some y) else ret none) h
    fun ρ S W I J H1 r s rI p D hD => ?_
  unfold compM at p
  have rI : ItRel ρ X.K H1 I J := rI
  have S0 : SimW (ρ ++ [D]) X.K (W ++ [.lst []]) (upd H1 D (.lst [])) := s.new hD ⟨[], upd_same, .nil⟩
  have U0 : Up ρ H1 (ρ ++ [D]) (upd H1 D (.lst [])) := Up.fresh hD
  have hn : ∀ {ρ' : List Addr} {H' : Hp}, Up (ρ ++ [D]) (upd H1 D (.lst [])) ρ' H' → ρ'[W.length]? = some D := fun u => u.pre _ _ (by rw [← s.len]; simp)
  -- what is still to be done
  let body : MV → M (Option MV) := fun x => bnd (ft (S.set i (some x))) fun t => if t = true then bnd (fe (S.set i (some x))) fun y => ret (some y) else ret none
  let Good : Nat → Nat → Hp → Prop := fun j k H' => j + k = I.len ∧ ∃ ρ' W', Up (ρ ++ [D]) (upd H1 D (.lst [])) ρ' H' ∧ SimW ρ' X.K W' H' ∧
    ∃ W'', compL W.length I body k j W' = .ok () W'' ∧ ∀ ρ'' H'', Up (ρ ++ [D]) (upd H1 D (.lst [])) ρ'' H'' → SimW ρ'' X.K W'' H'' → Q (.ref D) H''
  have start : Good 0 I.len (upd H1 D (.lst [])) := by
    refine ⟨by omega, ρ ++ [D], W ++ [.lst []], .refl, S0, ?_⟩
    cases e : compL W.length I body I.len 0 (W ++ [.lst []]) with
    | ok v W'' =>
      refine ⟨W'', rfl, fun ρ'' H'' u s2 => ?_⟩
      have e' : compL W.length I (fun x => bnd (ft (S.set i (some x))) fun t => if t = true then bnd (fe (S.set i (some x))) fun y => ret (some y) else ret none) I.len 0 (W ++ [.lst []]) = .ok v W'' := e
      simp only [e'] at p
      exact p ρ'' H'' (.ref D) (U0.trans u) s2 (by show RelM _ _ _ _ _; unfold RelM; exact ⟨D, rfl, hn u⟩)
    | err x w =>
      have e' : compL W.length I (fun x => bnd (ft (S.set i (some x))) fun t => if t = true then bnd (fe (S.set i (some x))) fun y => ret (some y) else ret none) I.len 0 (W ++ [.lst []]) = .err x w := e
      simp only [e'] at p; exact p.elim
    | bad =>
      have e' : compL W.length I (fun x => bnd (ft (S.set i (some x))) fun t => if t = true then bnd (fe (S.set i (some x))) fun y => ret (some y) else ret none) I.len 0 (W ++ [.lst []]) = .bad := e
      simp only [e'] at p; exact p.elim
  refine ⟨fun j k H' => Good j k H', ⟨I.len, start⟩, fun j k H' ⟨hjk, ρ', W', u, s', W'', hr, fin⟩ => ?_⟩
  have rI' : ItRel ρ' X.K H' I J := rI.up (U0.trans u)
  cases k with
  | zero =>
    simp only [compL] at hr
    split at hr
    · next hf => cases hr; exact .inl ⟨it_stop s' rI' hf (by omega), fin ρ' H' u s'⟩
    · cases hr
  | succ k =>
    simp only [compL] at hr
    split at hr
    · cases hr
    · next v hv =>
      obtain ⟨g1, g2⟩ := it_go s' rI' hv
      refine .inr ⟨g1, fun H2 => Good (j + 1) k H2, fun H2 g => ⟨k, Nat.lt_succ_self _, g⟩, fun x H2 y => ?_⟩
      obtain ⟨e2, rx⟩ := g2 x H2 y
      subst e2
      have hw : wipe σ [i] = σ.set i none := rfl
      show wipe ((wipe σ [i]).set i (some x)) [i] = wipe σ [i] ∧ _
      rw [hw]
      refine ⟨by show ((σ.set i none).set i (some x)).set i none = _; rw [List.set_set, List.set_set], ?_⟩
      rw [List.set_set]
      have rS : RelS noL.e ρ' X.K H2 (S.set i (some v)) (σ.set i (some x)) := (r.up (U0.trans u)).none.set i rx True.intro
      -- the test
      cases e1 : ft (S.set i (some v)) W' with
      | err z w => have eb : body v W' = .err z w := by simp only [body, bnd, e1]
                   rw [eb] at hr; cases hr
      | bad => have eb : body v W' = .bad := by simp only [body, bnd, e1]
               rw [eb] at hr; cases hr
      | ok t W2 =>
        refine tM_ok rS s' e1 fun ρ2 H3 b u2 s2 rb => ?_
        have rb' : t = b := rb
        subst rb'
        cases t with
        | false =>
          rw [if_neg Bool.false_ne_true]
          have eb : body v W' = .ok none W2 := by simp only [body, bnd, e1, Bool.false_eq_true, if_false, ret]
          rw [eb] at hr
          exact ⟨by omega, ρ2, W2, u.trans u2, s2, W'', hr, fin⟩
        | true =>
          rw [if_pos rfl]
          cases e3 : fe (S.set i (some v)) W2 with
          | err z w => have eb : body v W' = .err z w := by simp only [body, bnd, e1, if_true, e3]
                       rw [eb] at hr; cases hr
          | bad => have eb : body v W' = .bad := by simp only [body, bnd, e1, if_true, e3]
                   rw [eb] at hr; cases hr
          | ok y W3 =>
            refine tM_ok (rS.up u2) s2 e3 fun ρ3 H4 yv u3 s3 ry => ?_
            have eb : body v W' = .ok (some y) W3 := by simp only [body, bnd, e1, if_true, e3, ret]
            rw [eb] at hr
            dsimp only at hr
            have u4 := (u.trans u2).trans u3
            have ep := hn u4
            split at hr
            · next acc ea =>
              split at hr
              · next hl =>
                obtain ⟨vs, h1, q1⟩ := s3.lst ea ep
                have ry' : RelM ρ3 X.K H4 y yv := ry
                refine ⟨vs, h1, by rw [← q1.length]; exact hl, by omega, ρ3, _, ?_, ?_, W'', hr, fin⟩
                · exact u4.trans (Up.write h1 (fun _ z => by cases z) (fun _ _ z => by cases z) (fun _ z => by cases z))
                · have U5 : Up ρ3 H4 ρ3 (upd H4 D (.lst (vs ++ [yv]))) := Up.write h1 (fun _ z => by cases z) (fun _ _ z => by cases z) (fun _ z => by cases z)
                  exact (s3.write (c' := .lst (acc ++ [y])) (o := .lst (vs ++ [yv])) ea ep rfl ⟨_, upd_same, (q1.append (.cons ry' .nil)).up U5⟩).1
              · cases hr
            · cases hr
theorem me_comp {it : Env → M Itm} {ft : Env → M Bool} {fe : Env → M MV} {iter : Expr} {ifs : List Expr} {scope : Scope} {x : Str} {i : Nat} {xp pos : Pos} (hc : X.calm = true) (hN : X.N.Nodup)
    (hi : PI X (.Name x xp) iter (iM X.K Wx it)) (ok : BlkOk X.N X.env.scope scope [(x, i)])
    (hg : ∀ (s : Shared) (H : Hp) (C : Addr) (cl : List (Str × Addr)) (fp : List Addr), PG (X.blk s H scope (compEnvC scope cl C X.env) fp) (.Name x xp) (gName i))
    (ht : ∀ (s : Shared) (H : Hp) (C : Addr) (cl : List (Str × Addr)) (fp : List Addr), PTs (X.blk s H scope (compEnvC scope cl C X.env) fp) ifs (tMb X.K noL ft))
    (he : ∀ (s : Shared) (H : Hp) (C : Addr) (cl : List (Str × Addr)) (fp : List Addr), PE (X.blk s H scope (compEnvC scope cl C X.env) fp) elt (tM X.K noL fe))
    (hs : ∀ x, foldedSetIterable iter X.env x = pure x) :
    PE X (.ListComp elt [⟨.Name x xp, iter, ifs, 0⟩] scope pos) (tM X.K Wx (fun S => bnd (it S) fun I => compM I fun x => bnd (ft (S.set i (some x))) fun t => if t = true then bnd (fe (S.set i (some x))) fun y => ret (some y) else ret none)) :=
  pe_wk (pe_lc hc hN hi ok hg ht he hs) fun σ H Q h => comp_rd h
end
end Mir
set_option Elab.async false
set_option linter.all false
set_option maxRecDepth 100000
set_option maxHeartbeats 4000000
/-! MExpr4: chains, dict displays, built-ins, calls, attributes. -/
namespace Mir
open PySem L2
section
variable {X : Cx} {Wx : WL} {a b d o e : Expr} {es : List Expr} {fa fb fd fo : Env → M MV} {fs fk : Env → M (List MV)} {pos p0 apos : Pos}
/-! ### a < b < c -/
def chnM (o p : CmpOp) (fd : Env → M MV) (S : Env) (v u : MV) : M MV := bnd (cmpM o v u) fun r => match r with
    | .bl true => bnd (fd S) fun z => cmpM p u z
    | .bl false => ret (.bl false)
    | _ => stuck
theorem chain_rd (C : CtxOk X) {o p : CmpOp} {σ : L2.St} {H : Hp} {Q : VK} (h : tM X.K Wx (fun S => bnd (fa S) fun v => bnd (fb S) fun u => chnM o p fd S v u) σ H Q) :
    ∃ t t', OpR X (compareOp o) t ∧ OpR X (compareOp p) t' ∧ tChain t t' (tM X.K Wx fa) (tM X.K Wx fb) (tM X.K Wx fd) σ H Q := by
  obtain ⟨ρ, S, W, r, s, q⟩ := h
  simp only [bnd] at q
  cases h1 : fa S W with
  | err x W1 => rw [h1] at q; exact ⟨_, _, op_no _, op_no _, tM_err r s h1 q⟩
  | bad => rw [h1] at q; exact q.elim
  | ok v W1 =>
    rw [h1] at q
    dsimp only at q
    cases h2 : fb S W1 with
    | err x W2 => rw [h2] at q; exact ⟨_, _, op_no _, op_no _, tM_ok r s h1 fun ρ1 H1 x1 u1 s1 r1 => tM_err (r.up u1) s1 h2 (tM_up u1 q)⟩
    | bad => rw [h2] at q; exact q.elim
    | ok u W2 =>
      rw [h2] at q
      dsimp only at q
      obtain ⟨t, ht, hr⟩ := cmp_ok C o v u W2
      unfold chnM bnd at q
      cases h3 : cmpM o v u W2 with
      | err x w => exact absurd h3 (cmp_no _ _ _ _ _ _)
      | bad => rw [h3] at q; exact q.elim
      | ok z W3 =>
        obtain ⟨rfl, k, rfl⟩ := cmp_bl h3
        rw [h3] at q hr
        cases k with
        | false =>
          refine ⟨t, _, ht, op_no _, tM_ok r s h1 fun ρ1 H1 x1 u1 s1 r1 => tM_ok (r.up u1) s1 h2 fun ρ2 H2 x2 u2 s2 r2 => ?_⟩
          refine hr ρ2 H2 x1 x2 _ s2 (RelM.up u2 r1) r2 ?_
          intro ρ3 H3 z u3 s3 r3
          unfold RelM at r3; subst r3
          refine ⟨false, rfl, ?_⟩
          rw [if_neg Bool.false_ne_true]
          exact q ρ3 H3 _ ((u1.trans u2).trans u3) s3 (by show RelM _ _ _ _ _; unfold RelM; rfl)
        | true =>
          dsimp only at q
          cases h4 : fd S W3 with
          | bad => rw [h4] at q; exact q.elim
          | err x W4 =>
            rw [h4] at q
            refine ⟨t, _, ht, op_no _, tM_ok r s h1 fun ρ1 H1 x1 u1 s1 r1 => tM_ok (r.up u1) s1 h2 fun ρ2 H2 x2 u2 s2 r2 => ?_⟩
            refine hr ρ2 H2 x1 x2 _ s2 (RelM.up u2 r1) r2 ?_
            intro ρ3 H3 z u3 s3 r3
            unfold RelM at r3; subst r3
            refine ⟨true, rfl, ?_⟩
            rw [if_pos rfl]
            exact tM_err (r.up ((u1.trans u2).trans u3)) s3 h4 (tM_up ((u1.trans u2).trans u3) q)
          | ok y W4 =>
            rw [h4] at q
            dsimp only at q
            obtain ⟨t', ht', hr'⟩ := cmp_ok C p u y W4
            refine ⟨t, t', ht, ht', tM_ok r s h1 fun ρ1 H1 x1 u1 s1 r1 => tM_ok (r.up u1) s1 h2 fun ρ2 H2 x2 u2 s2 r2 => ?_⟩
            refine hr ρ2 H2 x1 x2 _ s2 (RelM.up u2 r1) r2 ?_
            intro ρ3 H3 z u3 s3 r3
            unfold RelM at r3; subst r3
            refine ⟨true, rfl, ?_⟩
            rw [if_pos rfl]
            refine tM_ok (r.up ((u1.trans u2).trans u3)) s3 h4 fun ρ4 H4 x4 u4 s4 r4 => ?_
            refine hr' ρ4 H4 x2 x4 Q s4 (RelM.up (u3.trans u4) r2) r4 ?_
            exact (tM_up (((u1.trans u2).trans u3).trans u4) q).toP (cmp_no _ _ _ _)
theorem chn_bl {o p : CmpOp} {fd : Env → M MV} {S : Env} {v u z : MV} {W W' : Wd} (h : chnM o p fd S v u W = .ok z W') : ∃ k, z = .bl k := by
  unfold chnM bnd at h
  cases e : cmpM o v u W with
  | err x w => rw [e] at h; cases h
  | bad => rw [e] at h; cases h
  | ok r W1 =>
    obtain ⟨rfl, k, rfl⟩ := cmp_bl e
    rw [e] at h
    cases k with
    | false => cases h; exact ⟨_, rfl⟩
    | true =>
      dsimp only at h
      cases e2 : fd S W1 with
      | ok y W2 => rw [e2] at h; exact (cmp_bl h).2
      | err x w => rw [e2] at h; cases h
      | bad => rw [e2] at h; cases h
theorem me_chain (C : CtxOk X) {o p : CmpOp} (ha : PE X a (tM X.K Wx fa)) (hb : PE X b (tM X.K Wx fb)) (hd : PE X d (tM X.K Wx fd)) (hm : lastMarks [o, p] [b, d] = false) :
    PE X (.Compare a [o, p] [b, d] pos) (tM X.K Wx fun S => bnd (fa S) fun v => bnd (fb S) fun u => chnM o p fd S v u) := by
  refine ⟨fun pins s σ H Q I h => ?_⟩
  obtain ⟨t, t', h1, h2, h3⟩ := chain_rd C h
  exact (pe_chain h1 h2 ha hb hd hm).run pins s σ H Q I h3
theorem mt_chain (C : CtxOk X) {o p : CmpOp} (ha : PE X a (tM X.K Wx fa)) (hb : PE X b (tM X.K Wx fb)) (hd : PE X d (tM X.K Wx fd)) (hm : lastMarks [o, p] [b, d] = false) :
    PT X (.Compare a [o, p] [b, d] pos) (tMb X.K Wx fun S => bnd (bnd (fa S) fun v => bnd (fb S) fun u => chnM o p fd S v u) truM) := by
  refine ⟨fun pins s σ H Q I h => ?_⟩
  have h0 : tM X.K Wx (fun S => bnd (fa S) fun v => bnd (fb S) fun u => chnM o p fd S v u) σ H (fun x H' => ∃ k, x = .bl k ∧ Q k H') := by
    obtain ⟨ρ, S, W, r, sm, q⟩ := h
    refine ⟨ρ, S, W, r, sm, ?_⟩
    have q : PostR rB X.K Wx σ ρ H Q (bnd (bnd (fa S) fun v => bnd (fb S) fun u => chnM o p fd S v u) truM W) := q
    have cases3 : ∀ z W', (bnd (fa S) fun v => bnd (fb S) fun u => chnM o p fd S v u) W = .ok z W' → ∃ k, z = .bl k := by
      intro z W' e
      simp only [bnd] at e
      split at e
      · split at e
        · exact chn_bl e
        · cases e
        · cases e
      · cases e
      · cases e
    show PostR (rV X.K) X.K Wx σ ρ H _ ((bnd (fa S) fun v => bnd (fb S) fun u => chnM o p fd S v u) W)
    generalize hm2 : (bnd (fa S) fun v => bnd (fb S) fun u => chnM o p fd S v u) = m at q cases3
    unfold bnd at q
    cases e : m W with
    | ok z W' =>
      obtain ⟨k, rfl⟩ := cases3 z W' e
      rw [e] at q
      intro ρ1 H1 x u1 s1 r1
      have r2 : RelM ρ1 X.K H1 (.bl k) x := r1
      unfold RelM at r2; subst r2
      exact ⟨k, rfl, q ρ1 H1 k u1 s1 rfl⟩
    | err x w => rw [e] at q; exact q
    | bad => rw [e] at q; exact q.elim
  obtain ⟨t, t', h1, h2, h3⟩ := chain_rd C h0
  exact (pt_chain h1 h2 ha hb hd hm).run pins s σ H Q I h3

/-! ### built-ins by name -/
def biN : Bi → Str
  | .len => "len"
  | .abs => "abs"
  | .min2 => "min"
  | .max2 => "max"
  | .sum => "sum"
  | .int => "int"
  | .repr => "repr"
  | .all => "all"
  | .list => "list"
  | .tuple => "tuple"
  | .str => "str"
  | .sorted => "sorted"
theorem pe_bi {bi : Bi} {r : List V → Hp → VK → Prop} {t : TA} (hc : CallR X (biV bi) r) (hg : Gl X (biN bi)) (hm : X.mg (biN bi) = none) (ha : PA X (e :: es) t)
    (he : starEach (e :: es) X.env = (false, eval e X.env) :: starEach es X.env) (hpl : (backTo pos (starEach es X.env)).any (·.1) = false) : PE X (.Call (.Name (biN bi) p0) (e :: es) [] pos) (tCB r t) := by
  cases bi
  case len => exact pe_callB hc hg hm (by decide +kernel) ha (by decide) (by decide) he hpl
  case abs => exact pe_callB hc hg hm (by decide +kernel) ha (by decide) (by decide) he hpl
  case min2 => exact pe_callB hc hg hm (by decide +kernel) ha (by decide) (by decide) he hpl
  case max2 => exact pe_callB hc hg hm (by decide +kernel) ha (by decide) (by decide) he hpl
  case sum => exact pe_callB hc hg hm (by decide +kernel) ha (by decide) (by decide) he hpl
  case repr => exact pe_callB hc hg hm (by decide +kernel) ha (by decide) (by decide) he hpl
  case all => exact pe_callB hc hg hm (by decide +kernel) ha (by decide) (by decide) he hpl
  case sorted => exact pe_callB hc hg hm (by decide +kernel) ha (by decide) (by decide) he hpl
  case str => exact pe_callTy hc hg hm (by decide +kernel) ha (by decide) (by decide) he hpl
  case int => exact pe_callTy hc hg hm (by decide +kernel) ha (by decide) (by decide) he hpl
  case list => exact pe_callTy hc hg hm (by decide +kernel) ha (by decide) (by decide) he hpl
  case tuple => exact pe_callTy hc hg hm (by decide +kernel) ha (by decide) (by decide) he hpl
theorem items_no (v : MV) (W : Wd) (x : Exn) (w : Wd) : itemsM v W ≠ .err x w := by
  cases v <;> simp only [itemsM] <;> (repeat' split) <;> simp [stuck]
theorem bi_no (bi : Bi) (vs : List MV) (W : Wd) (x : Exn) (w : Wd) : biM bi vs W ≠ .err x w := by
  have h : ∀ (v : MV) (g : List MV → M MV), (∀ xs w', g xs w' ≠ .err x w) → bnd (itemsM v) g W ≠ .err x w := by
    intro v g hg
    unfold bnd
    cases e : itemsM v W with
    | ok a w' => exact hg a w'
    | err y w' => exact absurd e (items_no _ _ _ _)
    | bad => simp
  unfold biM
  split <;> first
    | (apply h; intro xs w'; first | (split <;> simp [alloc]) | simp [ret, alloc])
    | ((repeat' split) <;> simp [ret, alloc, stuck])
theorem me_bi (C : CtxOk X) {bi : Bi} (hs : PA X (e :: es) (tMs X.K Wx fs)) (hg : Gl X (biN bi)) (hm : X.mg (biN bi) = none)
    (he : starEach (e :: es) X.env = (false, eval e X.env) :: starEach es X.env) (hpl : (backTo pos (starEach es X.env)).any (·.1) = false) :
    PE X (.Call (.Name (biN bi) p0) (e :: es) [] pos) (tM X.K Wx fun S => bnd (fs S) fun vs => biM bi vs) := by
  refine pe_dyn fun ρ S W σ H Q r s p => ?_
  simp only [bnd] at p
  cases h1 : fs S W with
  | err x W1 => rw [h1] at p; exact ⟨_, pe_bi (call_no _) hg hm hs he hpl, tM_err r s h1 p⟩
  | bad => rw [h1] at p; exact p.elim
  | ok vs W1 =>
    rw [h1] at p
    obtain ⟨t, ht, hr⟩ := bi_ok C bi vs W1
    refine ⟨_, pe_bi ht hg hm hs he hpl, tM_ok r s h1 fun ρ1 H1 xs u1 s1 r1 => ?_⟩
    exact hr ρ1 H1 xs Q s1 r1 ((tM_up u1 p).toP (bi_no _ _ _))
end
end Mir
set_option Elab.async false
set_option linter.all false
set_option maxRecDepth 100000
set_option maxHeartbeats 4000000
/-! MExpr5: dict displays, isinstance, methods, calls, instances, attributes. -/
namespace Mir
open PySem L2
section
variable {X : Cx} {Wx : WL} {a b d o e : Expr} {es : List Expr} {fa fb fd fo : Env → M MV} {fs fk : Env → M (List MV)} {pos p0 apos : Pos}
/-! ### dict displays, the keys written texts -/
structure MDp (X : Cx) (Wx : WL) (pos : Pos) (keys : List (Option Expr)) (values : List Expr) (ks : List Str) (fs : Env → M (List MV)) : Prop where
  ex : ∃ trs, PPs X pos keys values trs ∧ ∀ σ H Q, tMs X.K Wx fs σ H (fun us H1 => us.length = ks.length → Q ((ks.zip us).map fun p => (V.str p.1, p.2)) H1) → (∀ S W vs W', fs S W = .ok vs W' → vs.length = ks.length) → tPairs trs σ H Q
  len : ∀ S W vs W', fs S W = .ok vs W' → vs.length = ks.length
theorem md_nil : MDp X Wx pos [] [] [] fun _ => ret [] := by
  refine ⟨⟨[], pps_nil, fun σ H Q h _ => ?_⟩, fun S W vs W' h => by cases h; rfl⟩
  obtain ⟨ρ, S, W, r, s, p⟩ := h
  exact p.now s .nil rfl
theorem md_cons {ke : Expr} {k : Str} {keys : List (Option Expr)} {values : List Expr} {ks : List Str} (hk : PE X ke (tC (.str k))) (ha : PE X a (tM X.K Wx fa)) (hr : MDp X Wx pos keys values ks fs) :
    MDp X Wx pos (some ke :: keys) (a :: values) (k :: ks) fun S => bnd (fa S) fun v => bnd (fs S) fun vs => ret (v :: vs) := by
  obtain ⟨trs, h1, h2⟩ := hr.ex
  refine ⟨⟨_, pps_cons hk ha h1, fun σ H Q h hl => ?_⟩, fun S W vs W' h => ?_⟩
  · refine tM_then (R := rV X.K) (f := fun v S => bnd (fs S) fun vs => ret (v :: vs)) h fun ρ S W v u H1 r s r1 p => ?_
    refine h2 σ H1 _ ?_ hr.len
    refine ⟨ρ, S, W, r, s, ?_⟩
    unfold bnd at p
    cases e : fs S W with
    | ok vs W2 =>
      rw [e] at p
      intro ρ2 H2 us u2 s2 r2 hl2
      exact p ρ2 H2 (u :: us) u2 s2 (RelMs.cons (RelM.up u2 r1) r2) (by simp [hl2])
    | err x w => rw [e] at p; exact p
    | bad => rw [e] at p; exact p.elim
  · simp only [bnd] at h
    split at h
    · split at h
      · next e => cases h; simp [hr.len _ _ _ _ e]
      · cases h
      · cases h
    · cases h
    · cases h
theorem mergeK_nodup : ∀ (kvs acc : List (Key × V)), (∀ p ∈ kvs, p.1 ∉ acc.map (·.1)) → (kvs.map (·.1)).Nodup → mergeK acc kvs = acc ++ kvs := by
  intro kvs
  induction kvs with
  | nil => intro acc _ _; simp [mergeK]
  | cons p r ih =>
    intro acc h hn
    have h1 : putK acc p.1 p.2 = acc ++ [p] := by
      have := h p List.mem_cons_self
      unfold putK
      first
        | (rw [if_neg (by simpa using this)])
        | (simp_all)
    show mergeK (putK acc p.1 p.2) r = _
    rw [h1, ih]
    · simp
    · intro q hq
      simp only [List.map_append, List.map_cons, List.map_nil, List.mem_append, List.mem_singleton, not_or]
      refine ⟨h q (List.mem_cons_of_mem _ hq), fun z => ?_⟩
      simp only [List.map_cons, List.nodup_cons] at hn
      exact hn.1 (z ▸ List.mem_map_of_mem hq)
    · simp only [List.map_cons, List.nodup_cons] at hn
      exact hn.2
theorem nodup_inr : ∀ {ks : List Str}, ks.Nodup → (ks.map (Sum.inr : Str → Key)).Nodup
  | [], _ => by simp
  | k :: ks, h => by
    simp only [List.nodup_cons, List.map_cons] at h ⊢
    refine ⟨fun hm => ?_, nodup_inr h.2⟩
    obtain ⟨y, hy, e⟩ := List.mem_map.mp hm
    cases e
    exact h.1 hy
theorem me_dic {keys : List (Option Expr)} {values : List Expr} {ks : List Str} (hd : MDp X Wx pos keys values ks fs) (hall : keys.all (·.isSome) = true) (hl : keys.length = values.length) (h0 : keys ≠ []) (h15 : keys.length ≤ 15) (hkl : ks.length = keys.length) :
    PE X (.Dict keys values pos) (tM X.K Wx fun S w => match fs S (w ++ [.dic []]) with
      | .ok vs w' => (match w'[w.length]? with
        | some (.dic []) => if ks.length = vs.length ∧ ks.Nodup ∧ vs.length ≤ 15 ∧ vs.length ≠ 0 then .ok (.ref w.length) (w'.set w.length (.dic (ks.zipWith (fun k v => (Sum.inr k, v)) vs))) else .bad
        | _ => .bad)
      | .err e w' => .err e w'
      | .bad => .bad) := by
  obtain ⟨trs, h1, h2⟩ := hd.ex
  refine pe_wk (pe_disp h1 hall hl h0 h15) fun σ H Q h p hp => ?_
  obtain ⟨ρ, S, W, r, s, q⟩ := h
  have U0 : Up ρ H (ρ ++ [p]) (upd H p (.dK [])) := Up.fresh hp
  have S0 : SimW (ρ ++ [p]) X.K (W ++ [.dic []]) (upd H p (.dK [])) := s.new hp ⟨[], upd_same, rfl, .nil⟩
  refine h2 σ _ _ ⟨ρ ++ [p], S, W ++ [.dic []], r.up U0, S0, ?_⟩ hd.len
  dsimp only at q
  cases e : fs S (W ++ [.dic []]) with
  | err x w => rw [e] at q; exact fun ρ1 H1 c d u1 => q ρ1 H1 c d (U0.trans u1)
  | bad => rw [e] at q; exact q.elim
  | ok vs W' =>
    rw [e] at q
    intro ρ1 H1 us u1 s1 r1 hlen
    dsimp only at q
    split at q
    · next ec =>
      have ep : ρ1[W.length]? = some p := u1.pre _ _ (by rw [← s.len]; simp)
      obtain ⟨gs, g1, g2, g3⟩ := s1.cell _ _ _ ec ep
      have : gs = [] := by
        have := congrArg List.length g2
        simpa using this.symm
      subst this
      split at q
      · next hc =>
        have r1' : RelMs ρ1 X.K H1 vs us := r1
        let kvs : List (Key × V) := (ks.zip us).map fun z => (Sum.inr z.1, z.2)
        have hk : kvs.map (·.1) = ks.map Sum.inr := by
          simp only [kvs, List.map_map]
          have : ∀ (l : List Str) (m : List V), l.length = m.length → (l.zip m).map (fun z => (Sum.inr z.1 : Key)) = l.map Sum.inr := by
            intro l
            induction l with
            | nil => intro m _; rfl
            | cons y l ih =>
              intro m hm
              cases m with
              | nil => simp at hm
              | cons z m => simp at hm; simp [ih m hm]
          exact this ks us hlen.symm
        have hnd : (kvs.map (·.1)).Nodup := by
          rw [hk]
          exact nodup_inr hc.2.1
        refine ⟨g1, kvs, ?_, ?_, ?_⟩
        · simp only [kvs, List.map_map]
          apply List.map_congr_left
          intro z _
          rfl
        · simp only [kvs, List.length_map, List.length_zip]
          have := hc.2.2.1
          have := hc.1
          omega
        · rw [mergeK_nodup kvs [] (by simp) hnd, List.nil_append]
          have U2 : Up ρ1 H1 ρ1 (upd H1 p (.dK kvs)) := Up.write g1 (fun _ z => by cases z) (fun _ _ z => by cases z) (fun _ z => by cases z)
          have S2 := (s1.write (c' := .dic (ks.zipWith (fun k v => (Sum.inr k, v)) vs)) (o := .dK kvs) ec ep rfl ⟨kvs, upd_same, by
            rw [hk]
            have : ∀ (l : List Str) (m : List MV), l.length = m.length → (l.zipWith (fun k v => ((Sum.inr k : Key), v)) m).map (·.1) = l.map Sum.inr := by
              intro l
              induction l with
              | nil => intro m _; rfl
              | cons y l ih =>
                intro m hm
                cases m with
                | nil => simp at hm
                | cons z m => simp at hm; simp [ih m hm]
            exact this ks vs hc.1, by
            have e1 : ∀ (l : List Str) (m : List MV), l.length = m.length → (l.zipWith (fun k v => ((Sum.inr k : Key), v)) m).map (·.2) = m := by
              intro l
              induction l with
              | nil => intro m hm; cases m with
                | nil => rfl
                | cons _ _ => simp at hm
              | cons y l ih =>
                intro m hm
                cases m with
                | nil => simp at hm
                | cons z m => simp at hm; simp [ih m hm]
            have e2 : kvs.map (·.2) = us := by
              simp only [kvs, List.map_map]
              have : ∀ (l : List Str) (m : List V), l.length = m.length → (l.zip m).map (fun z => z.2) = m := by
                intro l
                induction l with
                | nil => intro m hm; cases m with
                  | nil => rfl
                  | cons _ _ => simp at hm
                | cons y l ih =>
                  intro m hm
                  cases m with
                  | nil => simp at hm
                  | cons z m => simp at hm; simp [ih m hm]
              exact this ks us hlen.symm
            rw [e1 ks vs hc.1, e2]
            exact r1'.up U2⟩).1
          exact q ρ1 _ (.ref p) ((U0.trans u1).trans U2) S2 (by show RelM _ _ _ _ _; unfold RelM; exact ⟨p, rfl, ep⟩)
      · exact q.elim
    · exact q.elim

/-! ### isinstance, by classes that are built in -/
/-- a class, or a tuple of such -/
inductive Cla (X : Cx) : Expr → List String → Prop where
  | one {x : Str} {p1 : Pos} {T : String} (h : PE X (.Name x p1) (tC (.ty T))) : Cla X (.Name x p1) [T]
  | many {ces : List Expr} {k : Nat} {p1 : Pos} {Ts : List String} (hl : Ts.length ≤ 100) (h : PA X ces (fun _ H Q => Q (Ts.map V.ty) H)) : Cla X (.Tuple ces k p1) Ts
theorem pa_cls_nil : PA X [] (fun _ H Q => Q (([] : List String).map V.ty) H) := ⟨fun pos pins s σ H Q I h => pa_nil.run pos pins s σ H Q I h⟩
theorem pa_cls_cons {x : Str} {p1 : Pos} {T : String} {ces : List Expr} {Ts : List String} (h : PE X (.Name x p1) (tC (.ty T))) (hr : PA X ces (fun _ H Q => Q (Ts.map V.ty) H)) : PA X (.Name x p1 :: ces) (fun _ H Q => Q ((T :: Ts).map V.ty) H) :=
  ⟨fun pos pins s σ H Q I q => (pa_cons h hr rfl).run pos pins s σ H Q I q⟩
theorem isi_no (cs : List String) (v : MV) (W : Wd) (x : Exn) (w : Wd) : isiM cs v W ≠ .err x w := by
  unfold isiM
  (repeat' split) <;> simp
theorem clsv_all : ∀ Ts : List String, Paired ClsV (Ts.map V.ty) (Ts.map Value.type)
  | [] => .nil
  | T :: Ts => .cons (.ty T) (clsv_all Ts)
theorem me_isi {ce : Expr} {cs : List String} (ha : PE X e (tM X.K Wx fa)) (hc : Cla X ce cs) (hg : Gl X "isinstance") (hm : X.mg "isinstance" = none) (he : starEach [e, ce] X.env = [(false, eval e X.env), (false, eval ce X.env)]) :
    PE X (.Call (.Name "isinstance" p0) [e, ce] [] pos) (tM X.K Wx fun S => bnd (fa S) fun v => isiM cs v) := by
  have he1 : starEach [e, ce] X.env = (false, eval e X.env) :: starEach [ce] X.env := by
    rw [he]
    cases hc <;> rfl
  have hp : (backTo pos (starEach [ce] X.env)).any (·.1) = false := by cases hc <;> rfl
  cases hc with
  | @one x p1 T h =>
    refine pe_wk (pe_callB call_isi hg hm (by decide +kernel) (pa_cons ha (pa_cons h pa_nil) he1) (by decide) (by decide) he1 hp) fun σ H Q q => ?_
    refine tM_then (R := rV X.K) (f := fun v _ => isiM [T] v) q fun ρ S W v u H1 r s r1 p => ?_
    unfold isiM at p
    cases e1 : tyOf W v with
    | none => rw [e1] at p; exact p.elim
    | some t =>
      rw [e1] at p
      dsimp only at p
      cases e2 : kitAnyB t [T] with
      | none => rw [e2] at p; exact p.elim
      | some k =>
        rw [e2] at p
        refine ⟨u, .ty T, .type t, .type T, k, rfl, .ty T, ty_ok s r1 e1, ?_, p.now s (by show RelM _ _ _ _ _; unfold RelM; rfl)⟩
        simp only [kitAnyB] at e2
        cases e3 : kitB t T with
        | none => rw [e3] at e2; cases e2
        | some j => cases j <;> (rw [e3] at e2; cases e2; exact kit_ty e3)
  | @many ces k p1 _ hl h =>
    refine pe_wk (pe_callB call_isiT hg hm (by decide +kernel) (pa_cons ha (pa_cons (pe_tup h) pa_nil) he1) (by decide) (by decide) he1 hp) fun σ H Q q => ?_
    refine tM_then (R := rV X.K) (f := fun v _ => isiM cs v) q fun ρ S W v u H1 r s r1 p => ?_
    refine ⟨by rw [List.length_map, sizeLine_eq]; omega, fun c hc => ?_⟩
    unfold isiM at p
    cases e1 : tyOf W v with
    | none => rw [e1] at p; exact p.elim
    | some t =>
      rw [e1] at p
      dsimp only at p
      cases e2 : kitAnyB t cs with
      | none => rw [e2] at p; exact p.elim
      | some k =>
        rw [e2] at p
        have U : Up ρ H1 ρ (upd H1 c (.tup (cs.map V.ty))) := Up.fresh0 hc
        have s2 := s.fresh0 (o := .tup (cs.map V.ty)) hc
        exact ⟨u, c, cs.map V.ty, .type t, cs.map Value.type, k, rfl, upd_same, clsv_all cs, ty_ok s2 (RelM.up U r1) e1, kitAny_ok e2, p ρ _ _ U s2 (by show RelM _ _ _ _ _; unfold RelM; rfl)⟩

/-! ### o.m(..) of a built-in type -/
theorem bmC_no (m : Bm) (v : MV) (W : Wd) (x : Exn) (w : Wd) : bmChk m v W ≠ .err x w := by
  unfold bmChk
  (repeat' split) <;> simp [stuck, ret]
theorem bm_no (m : Bm) (v : MV) (vs : List MV) (W : Wd) (x : Exn) (w : Wd) : bmM m v vs W ≠ .err x w := by
  unfold bmM
  split
  case h_7 =>
    unfold bnd
    split
    · dsimp only
      (repeat' split) <;> simp
    · next e => exact absurd e (items_no _ _ _ _)
    · simp
  all_goals first
    | ((repeat' split) <;> simp [stuck, ret, alloc]; done)
    | (split <;> (try split) <;> (try split) <;> (try split) <;> simp)
theorem me_bm {m : Bm} (ho : PE X o (tM X.K Wx fo)) (hs : PA X (e :: es) (tMs X.K Wx fs)) (hbase : attributeBase o (bmN m) X.env (eval o X.env) = eval o X.env)
    (hfew : ((backTo pos (starEach (e :: es) X.env)).all (fun x => !x.1) && (backToKw pos (keywordEach [] X.env)).all (fun x => x.1.isSome)
      && decide ((e :: es).length + ([] : List Keyword).length + (if ([] : List Keyword).isEmpty then 0 else 1) < 30)) = true)
    (hline : (apos.endLine == pos.line) = true) (he : starEach (e :: es) X.env = (false, eval e X.env) :: starEach es X.env) (hpl : (backTo pos (starEach es X.env)).any (·.1) = false) :
    PE X (.Call (.Attribute o (bmN m) apos) (e :: es) [] pos) (tM X.K Wx fun S => bnd (fo S) fun v => bnd (bmChk m v) fun _ => bnd (fs S) fun vs => bmM m v vs) := by
  refine pe_dyn fun ρ S W σ H Q r s p => ?_
  have mk : ∀ {t}, MtR X (bmI m) t → PE X (.Call (.Attribute o (bmN m) apos) (e :: es) [] pos) (tBM X.K (bmT m) t (tM X.K Wx fo) (tMs X.K Wx fs)) := fun ht => pe_bm (bm_pa m) (bm_slot m) (bm_type m) ht ho hs hbase hfew hline he hpl
  simp only [bnd] at p
  cases h1 : fo S W with
  | err x W1 => rw [h1] at p; exact ⟨_, mk (mt_no _), tM_err r s h1 p⟩
  | bad => rw [h1] at p; exact p.elim
  | ok v W1 =>
    rw [h1] at p
    dsimp only at p
    cases h2 : bmChk m v W1 with
    | err x w => exact absurd h2 (bmC_no _ _ _ _ _)
    | bad => rw [h2] at p; exact p.elim
    | ok _ W2 =>
      obtain ⟨rfl, ty⟩ := bm_ty (K := X.K) (H := H) (ρ := ρ) m v h2
      rw [h2] at p
      dsimp only at p
      cases h3 : fs S W2 with
      | err x W3 =>
        rw [h3] at p
        exact ⟨_, mk (mt_no _), tM_ok r s h1 fun ρ1 H1 x1 u1 s1 r1 => ⟨(bm_ty (K := X.K) m v h2).2 s1 r1, tM_err (r.up u1) s1 h3 (tM_up u1 p)⟩⟩
      | bad => rw [h3] at p; exact p.elim
      | ok vs W3 =>
        rw [h3] at p
        obtain ⟨t, ht, hr⟩ := bm_ok (X := X) m v vs W3
        refine ⟨_, mk ht, tM_ok r s h1 fun ρ1 H1 x1 u1 s1 r1 => ⟨(bm_ty (K := X.K) m v h2).2 s1 r1, tM_ok (r.up u1) s1 h3 fun ρ2 H2 xs u2 s2 r2 => ?_⟩⟩
        exact hr ρ2 H2 x1 xs Q s2 (RelM.up u2 r1) r2 ((tM_up (u1.trans u2) p).toP (bm_no _ _ _ _))
/-- o.m() -/
theorem me_bm0 {m : Bm} (ho : PE X o (tM X.K Wx fo)) (hbase : attributeBase o (bmN m) X.env (eval o X.env) = eval o X.env) (hline : (apos.endLine == pos.line) = true) :
    PE X (.Call (.Attribute o (bmN m) apos) [] [] pos) (tM X.K Wx fun S => bnd (fo S) fun v => bnd (bmChk m v) fun _ => bnd (ret []) fun vs => bmM m v vs) := by
  refine pe_dyn fun ρ S W σ H Q r s p => ?_
  have mk : ∀ {t}, MtR X (bmI m) t → PE X (.Call (.Attribute o (bmN m) apos) [] [] pos) (tBM0 X.K (bmT m) t (tM X.K Wx fo)) := fun ht => pe_bm0 (bm_pa m) (bm_slot m) (bm_type m) ht ho hbase hline
  simp only [bnd, ret] at p
  cases h1 : fo S W with
  | err x W1 => rw [h1] at p; exact ⟨_, mk (mt_no _), tM_err r s h1 p⟩
  | bad => rw [h1] at p; exact p.elim
  | ok v W1 =>
    rw [h1] at p
    dsimp only at p
    cases h2 : bmChk m v W1 with
    | err x w => exact absurd h2 (bmC_no _ _ _ _ _)
    | bad => rw [h2] at p; exact p.elim
    | ok _ W2 =>
      obtain ⟨rfl, ty⟩ := bm_ty (K := X.K) (H := H) (ρ := ρ) m v h2
      rw [h2] at p
      dsimp only at p
      obtain ⟨t, ht, hr⟩ := bm_ok (X := X) m v [] W2
      refine ⟨_, mk ht, tM_ok r s h1 fun ρ1 H1 x1 u1 s1 r1 => ⟨(bm_ty (K := X.K) m v h2).2 s1 r1, ?_⟩⟩
      exact hr ρ1 H1 x1 [] Q s1 r1 .nil ((tM_up u1 p).toP (bm_no _ _ _ _))
end
end Mir
set_option Elab.async false
set_option linter.all false
set_option maxRecDepth 100000
set_option maxHeartbeats 4000000
/-! MExpr6: calls of the program's own defs, methods, instances, attributes. -/
namespace Mir
open PySem L2
section
variable {T : Prog} {n : Nat} {X : Cx} {Wx : WL} {e o : Expr} {es : List Expr} {fa fo : Env → M MV} {fs fk : Env → M (List MV)} {kws : List Keyword} {ks : List Str} {pos p0 apos : Pos} {x m f C : Str} {d : FDef}
theorem mk_nil : PK X [] (tMs X.K Wx fun _ => ret []) := by
  refine ⟨fun pos pins s σ H Q I ⟨ρ, S, W, r, sm, p⟩ => pk_nil.run pos pins s σ H Q I ?_⟩
  exact p.now sm .nil
theorem mk_cons {nm : Option Str} {kp : Pos} (ha : PE X e (tM X.K Wx fa)) (hr : PK X kws (tMs X.K Wx fk)) : PK X (⟨nm, e, kp⟩ :: kws) (tMs X.K Wx fun S => bnd (fa S) fun v => bnd (fk S) fun vs => ret (v :: vs)) := by
  refine ⟨fun pos pins s σ H Q I h => (pk_cons ha hr).run pos pins s σ H Q I ?_⟩
  refine tM_then (R := rV X.K) (f := fun v S => bnd (fk S) fun vs => ret (v :: vs)) h fun ρ S W v u H1 r sm r1 p => ?_
  refine ⟨ρ, S, W, r, sm, ?_⟩
  unfold bnd at p
  cases e : fk S W with
  | ok vs W2 =>
    rw [e] at p
    intro ρ2 H2 us u2 s2 r2
    exact p ρ2 H2 (u :: us) u2 s2 (RelMs.cons (RelM.up u2 r1) r2)
  | err x w => rw [e] at p; exact p
  | bad => rw [e] at p; exact p.elim
theorem GOk.kp {P : Program} {w : World} {K : PySem.W.Frag} {mg : Str → Option Value} {base : Heap} {a : Addr} (G : GOk T n P w K mg base a d) : PySem.W.keepIn K (.ref a) = true := by
  obtain ⟨_, _, _, _, _, D, _⟩ := G
  obtain ⟨_, _, _, _, _, F⟩ := D.ex
  exact F.kp
/-- a first step from where one stands -/
theorem tM_from {α β α' β' : Type} {R : Rl α β} {R' : Rl α' β'} {K : PySem.W.Frag} {m : Env → M α} {g : α → M α'} {Q' : β' → Hp → Prop} {Q : β → Hp → Prop} {σ : L2.St} {ρ : List Addr} {H : Hp} {S : Env} {W : Wd}
    (r : RelS Wx.e ρ K H S σ) (s : SimW ρ K W H) (p : PostR R' K Wx σ ρ H Q' (bnd (m S) g W))
    (k : ∀ ρ1 W1 v u H1, Up ρ H ρ1 H1 → SimW ρ1 K W1 H1 → R ρ1 H1 v u → PostR R' K Wx σ ρ1 H1 Q' (g v W1) → Q u H1) : tMR R K Wx m σ H Q := by
  refine ⟨ρ, S, W, r, s, ?_⟩
  unfold bnd at p
  cases e1 : m S W with
  | ok v W1 =>
    rw [e1] at p
    intro ρ1 H1 u u1 s1 r1
    exact k ρ1 W1 v u H1 u1 s1 r1 (tM_up u1 p)
  | err x W1 => rw [e1] at p; exact p
  | bad => rw [e1] at p; exact p.elim
/-- the arguments, then what is called with them; r0 is what was known of the receiver -/
theorem args_then {pins : List (Addr × Obj)} {s : Shared} {σ : L2.St} {ρ0 : List Addr} {S0 : Env} {W0 : Wd} {H : Hp} {Q : Value → Shared → Prop} {fv : Value} {first : List Value} {g : List MV → List MV → M MV} {Q' : VK}
    (hs : PA X es (tMs X.K Wx fs)) (hk : PK X kws (tMs X.K Wx fk)) (kp : PySem.W.keepIn X.K fv = true) (I : Inv X pins σ H s)
    (hall : (backToKw pos (keywordEach kws X.env)).all (·.1.isSome) = true) (hks : (backToKw pos (keywordEach kws X.env)).filterMap (·.1) = ks)
    (hpl : ((backTo pos (starEach es X.env)).any (·.1) || (backToKw pos (keywordEach kws X.env)).any (·.1.isNone)) = false)
    (he : ∀ e r, es = e :: r → starEach (e :: r) X.env = (false, eval e X.env) :: starEach r X.env) (h0 : es = [] → fs = fun _ => ret [])
    (r0 : RelS Wx.e ρ0 X.K H S0 σ) (s0 : SimW ρ0 X.K W0 H) (h : PostR (rV X.K) X.K Wx σ ρ0 H Q' (bnd (fs S0) (fun vs => bnd (fk S0) fun us => g vs us) W0))
    (k : ∀ (us ws : List Value) (s2 : Shared) (ρ : List Addr) (W : Wd) (vs kvs : List MV) (xs ys : List V) (H2 : Hp), Up ρ0 H ρ H2 → Inv X pins σ H2 s2 → SimW ρ X.K W H2 → RelMs ρ X.K H2 vs xs → RelMs ρ X.K H2 kvs ys → Vals xs us → Vals ys ws →
      PostR (rV X.K) X.K Wx σ ρ H2 Q' (g vs kvs W) → wpAny (model X.prog X.w) X.A (call fv (first ++ us) (ks.zip ws)) Q X.xe s2) :
    wpAny (model X.prog X.w) X.A (callWith pos fv first (backTo pos (starEach es X.env)) (backToKw pos (keywordEach kws X.env))) Q X.xe s := by
  have h1 : tMs X.K Wx fs σ H (fun xs H1 => tMs X.K Wx fk σ H1 fun ys H2 => ∃ ρ W vs kvs, Up ρ0 H ρ H2 ∧ SimW ρ X.K W H2 ∧ RelMs ρ X.K H2 vs xs ∧ RelMs ρ X.K H2 kvs ys ∧ PostR (rV X.K) X.K Wx σ ρ H2 Q' (g vs kvs W)) := by
    refine tM_from (R := rVs X.K) r0 s0 h fun ρ1 W1 vs xs H1 u1 s1 r1 p => ?_
    refine tM_from (R := rVs X.K) (r0.up u1) s1 p fun ρ2 W2 kvs ys H2 u2 s2 r2 p2 => ?_
    exact ⟨ρ2, W2, vs, kvs, u1.trans u2, s2, RelMs.up u2 r1, r2, p2⟩
  cases es with
  | nil =>
    refine PySem.W.callWith_KW0 (h₀ := X.base) I.ok.mod.kin kp hall ?_ hpl
    have h2 : tMs X.K Wx fk σ H fun ys H2 => ∃ ρ W vs kvs, Up ρ0 H ρ H2 ∧ SimW ρ X.K W H2 ∧ RelMs ρ X.K H2 vs [] ∧ RelMs ρ X.K H2 kvs ys ∧ PostR (rV X.K) X.K Wx σ ρ H2 Q' (g vs kvs W) := by
      rw [h0 rfl] at h
      refine tM_from (R := rVs X.K) r0 s0 (show PostR (rV X.K) X.K Wx σ ρ0 H Q' (bnd (fk S0) (fun us => g [] us) W0) from h) fun ρ2 W2 kvs ys H2 u2 s2 r2 p2 => ?_
      exact ⟨ρ2, W2, [], kvs, u2, s2, .nil, r2, p2⟩
    refine thn (hk.run pos pins s σ H _ I h2) fun ws s2 ⟨ys, H2, I2, rz, ρ, W, vs, kvs, u, s3, r3, r4, p⟩ => ⟨I2.kIn, ?_⟩
    rw [hks]
    exact k [] ws s2 ρ W vs kvs [] ys H2 u I2 s3 r3 r4 .nil rz p
  | cons e r =>
    refine PySem.W.callWith_KW (h₀ := X.base) I.ok.mod.kin kp hall (thn (hs.run pos pins s σ H _ I h1) fun us s1 ⟨xs, H1, I1, rv, q⟩ => ?_) hpl (he e r rfl)
    refine thn (hk.run pos pins s1 σ H1 _ I1 q) fun ws s2 ⟨ys, H2, I2, rz, ρ, W, vs, kvs, u, s3, r3, r4, p⟩ => ⟨I2.kIn, ?_⟩
    rw [hks]
    exact k us ws s2 ρ W vs kvs xs ys H2 u I2 s3 r3 r4 rv rz p
/-- what the text of a call must show -/
structure CallTx (X : Cx) (es : List Expr) (kws : List Keyword) (ks : List Str) (pos : Pos) : Prop where
  all : (backToKw pos (keywordEach kws X.env)).all (·.1.isSome) = true
  ks : (backToKw pos (keywordEach kws X.env)).filterMap (·.1) = ks
  pl : ((backTo pos (starEach es X.env)).any (·.1) || (backToKw pos (keywordEach kws X.env)).any (·.1.isNone)) = false
  st : ∀ e r, es = e :: r → starEach (e :: r) X.env = (false, eval e X.env) :: starEach r X.env
theorem me_call (sd : Snd T n X Wx) (tx : CallTx X es kws ks pos) (h0 : es = [] → fs = fun _ => ret []) (hf : T.fns.lookup (x, none) = some d) (hg : Gl X x) (hdb : (x == ("__debug__" : Str)) = false)
    (hs : PA X es (tMs X.K Wx fs)) (hk : PK X kws (tMs X.K Wx fk)) : PE X (.Call (.Name x p0) es kws pos) (tM X.K Wx fun S => bnd (fs S) fun vs => bnd (fk S) fun us => callF T n (x, none) vs (ks.zip us)) := by
  refine ⟨fun pins s σ H Q I h => ?_⟩
  obtain ⟨ρ, S, W, r, sm, p⟩ := h
  obtain ⟨hm, G⟩ := sd.txt.glo x d hf
  refine wpAny_Call_Name_kw (ld_glob I hg hm ?_ hdb)
  exact args_then (first := []) (g := fun vs us => callF T n (x, none) vs (ks.zip us)) hs hk G.kp I tx.all tx.ks tx.pl tx.st h0 r sm p
    fun us ws s2 ρ2 W2 vs kvs xs ys H2 u I2 s3 r3 r4 v3 v4 p2 => run_call sd hf G I2 s3 r3 v3 r4 v4 p2
/-- o.m(..) of an instance -/
theorem clsM_ok {c : Calls} {v : MV} {W W1 : Wd} {C : Str} (h : clsM c m v W = .ok C W1) : W1 = W ∧ ∃ i fs, v = .ref i ∧ W[i]? = some (.ins C fs) ∧ (fs.lookup m).isNone = true ∧ c.own C = true ∧ c.prop C m = false ∧ c.has (C, some m) = true := by
  cases v with
  | ref i =>
    simp only [clsM] at h
    split at h
    · next C' fs e =>
      split at h
      · next hc => cases h; exact ⟨rfl, i, fs, rfl, e, hc.1, hc.2.1, hc.2.2.1, hc.2.2.2⟩
      · cases h
    · cases h
  | _ => cases h
theorem clsM_no {c : Calls} {v : MV} {W : Wd} {x : Exn} {w : Wd} : clsM c m v W ≠ .err x w := by
  cases v <;> simp only [clsM] <;> (repeat' split) <;> simp [stuck]
theorem me_mth (sd : Snd T n X Wx) (tx : CallTx X es kws ks pos) (h0 : es = [] → fs = fun _ => ret []) {pl : Sem Bool}
    (ht : eval (.Call (.Attribute o m apos) es kws pos) X.env = (do
      let ov ← eval o X.env
      standAt apos.atName
      let (f, first) ← holding [ov] (getMethod ov m pl)
      callWith pos f first (backTo pos (starEach es X.env)) (backToKw pos (keywordEach kws X.env))))
    (ho : PE X o (tM X.K Wx fo)) (hs : PA X es (tMs X.K Wx fs)) (hk : PK X kws (tMs X.K Wx fk)) :
    PE X (.Call (.Attribute o m apos) es kws pos) (tM X.K Wx fun S => bnd (fo S) fun v => bnd (clsM (T.calls (callF T n)) m v) fun C => bnd (fs S) fun vs => bnd (fk S) fun us => mthM (T.calls (callF T n)) m v vs (ks.zip us) C) := by
  refine ⟨fun pins s σ H Q I h => ?_⟩
  obtain ⟨ρ, S, W, r, sm, p⟩ := h
  have h1 : tM X.K Wx fo σ H fun x H1 => ∃ ρ1 W1 v, Up ρ H ρ1 H1 ∧ SimW ρ1 X.K W1 H1 ∧ RelM ρ1 X.K H1 v x ∧
      PostR (rV X.K) X.K Wx σ ρ1 H1 Q (bnd (clsM (T.calls (callF T n)) m v) (fun C => bnd (fs S) fun vs => bnd (fk S) fun us => mthM (T.calls (callF T n)) m v vs (ks.zip us) C) W1) :=
    tM_from (R := rV X.K) r sm p fun ρ1 W1 v x H1 u1 s1 r1 p1 => ⟨ρ1, W1, v, u1, s1, r1, p1⟩
  refine PySem.W.methodCall_KW (pl := pl) (thn (ho.run pins s σ H _ I h1) fun u s1 ⟨x, H1, I1, rx, ρ1, W1, v, u1, sm1, r1, p1⟩ => ?_) ht
  unfold bnd at p1
  cases ec : clsM (T.calls (callF T n)) m v W1 with
  | err y w => exact absurd ec clsM_no
  | bad => rw [ec] at p1; exact p1.elim
  | ok C W2 =>
    obtain ⟨rfl, i, fds, rfl, eW, hno, hown, hprop, hhas⟩ := clsM_ok ec
    rw [ec] at p1
    dsimp only at p1
    cases hd : T.fns.lookup (C, some m) with
    | none =>
      have : (T.fns.lookup (C, some m)).isSome = true := hhas
      rw [hd] at this; cases this
    | some d =>
      obtain ⟨M, G⟩ := sd.txt.mth C m d hown hprop hd
      obtain ⟨Cl, _, _⟩ := sd.txt.cls C hown
      have r1' := r1
      unfold RelM at r1'
      obtain ⟨q, rfl, eq⟩ := r1'
      obtain rfl : u = Value.ref q := rx
      obtain ⟨dx, gs, hH, hF⟩ := sm1.cell _ _ _ eW eq
      have hl : gs.lookup m = none := by
        have : ∀ {a : List (Str × MV)} {b : List (Str × V)}, a.map (·.1) = b.map (·.1) → (a.lookup m).isNone = true → b.lookup m = none := by
          intro a
          induction a with
          | nil => intro b e _; cases b with
            | nil => rfl
            | cons _ _ => simp at e
          | cons y a ih =>
            intro b e h
            cases b with
            | nil => simp at e
            | cons z b =>
              obtain ⟨y1, y2⟩ := y
              obtain ⟨z1, z2⟩ := z
              simp only [List.map_cons, List.cons.injEq] at e
              obtain ⟨rfl, e⟩ := e
              simp only [List.lookup_cons] at h ⊢
              split at h
              · cases h
              · next hh => exact ih e h
        exact this hF.1 hno
      refine getmeth_ok I1 hH Cl M hl ?_
      refine args_then (first := [.ref q]) (g := fun vs us => mthM (T.calls (callF T n)) m (.ref i) vs (ks.zip us) C) hs hk G.kp I1 tx.all tx.ks tx.pl tx.st h0 (r.up u1) sm1 p1
        fun us ws s2 ρ2 W2 vs kvs xs ys H2 u2 I2 s3 r3 r4 v3 v4 p2 => ?_
      exact run_call (us := .ref q :: us) (xs := .ref q :: xs) (vs := .ref i :: vs) sd hd G I2 s3 (.cons (RelM.up u2 r1) r3) (.cons rfl v3) r4 v4 p2
end
end Mir
set_option Elab.async false
set_option linter.all false
set_option maxRecDepth 100000
set_option maxHeartbeats 4000000
/-! MExpr7: instances made, attributes. -/
namespace Mir
open PySem L2
section
variable {T : Prog} {n : Nat} {X : Cx} {Wx : WL} {e o : Expr} {es : List Expr} {fa fo : Env → M MV} {fs : Env → M (List MV)} {pos p0 : Pos} {f C : Str} {d : FDef} {pins : List (Addr × Obj)} {σ : L2.St} {H : Hp} {s : Shared} {ρ : List Addr} {W : Wd} {Q : VK}
theorem run_mk {vs : List MV} {xs : List V} {us : List Value} (sd : Snd T n X Wx) (hC : T.clss.contains C = true) (hp : T.props.contains (C, "__init__") = false)
    (I : Inv X pins σ H s) (S : SimW ρ X.K W H) (r1 : RelMs ρ X.K H vs xs) (v1 : Vals xs us) (p : PostR (rV X.K) X.K Wx σ ρ H Q (mkM (T.calls (callF T n)) C vs W)) :
    wpAny (model X.prog X.w) X.A (call (.ref (He.ga X.K C)) us) (EP X pins σ Q) X.xe s := by
  obtain ⟨Cl, _, M⟩ := sd.txt.cls C hC
  unfold mkM at p
  cases n with
  | zero => exact p.elim
  | succ m =>
    have hfn : ∀ vs w, (T.calls (callF T (m + 1))).fn (C, some "__init__") vs [] w = callF T (m + 1) (C, some "__init__") vs [] w := fun _ _ => rfl
    rw [hfn] at p
    unfold callF at p
    cases hd : T.fns.lookup (C, some ("__init__" : Str)) with
    | none => rw [hd] at p; exact p.elim
    | some d =>
      rw [hd] at p
      dsimp only at p
      obtain ⟨_, G⟩ := sd.txt.mth C "__init__" d hC hp hd
      obtain ⟨x, qual, body, scope, fd, D, F⟩ := G
      cases e : bindL d.ps (.ref W.length :: vs) [] d.dfl with
      | none => rw [e] at p; exact p.elim
      | some as =>
        rw [e] at p
        dsimp only at p
        have fx : H (s.heap.objs.size + 1) = none := I.hok.fresh (Nat.le_succ _)
        have fdx : H s.heap.objs.size = none := I.hok.fresh (Nat.le_refl _)
        have ne : s.heap.objs.size + 1 ≠ s.heap.objs.size := Nat.succ_ne_self _
        have I2 := Inv.made (C := He.ga X.K C) I
        have fx2 : upd H s.heap.objs.size (.own (s.heap.objs.size + 1)) (s.heap.objs.size + 1) = none := by rw [upd_ne ne]; exact fx
        have U1 : Up ρ H ρ (upd H s.heap.objs.size (.own (s.heap.objs.size + 1))) := Up.fresh0 fdx
        have S1 : SimW ρ X.K W (upd H s.heap.objs.size (.own (s.heap.objs.size + 1))) := S.fresh0 fdx
        have U2 := Up.fresh (ρ := ρ) (o := .ins (He.ga X.K C) s.heap.objs.size []) fx2
        have S2 := S1.new (c := .ins C []) (o := .ins (He.ga X.K C) s.heap.objs.size []) fx2 ⟨s.heap.objs.size, [], upd_same, rfl, .nil⟩
        have U := U1.trans U2
        have rx : RelM (ρ ++ [s.heap.objs.size + 1]) X.K (upd (upd H s.heap.objs.size (.own (s.heap.objs.size + 1))) (s.heap.objs.size + 1) (.ins (He.ga X.K C) s.heap.objs.size [])) (.ref W.length) (.ref (s.heap.objs.size + 1)) := by
          unfold RelM
          exact ⟨_, rfl, by rw [← S.len]; simp⟩
        refine wpAny_call (make_map (f := He.ma X.K (He.ga X.K C) "__init__") I.kIn M.makes M.init (beq_iff_eq.mp M.fn) (codeAny_mono (core_g (E := fun c d H' => Wx c d σ H') (Q := fun v H2 => v = .non ∧ Q (.ref (s.heap.objs.size + 1)) H2) (ks := []) (kvs := []) (ys := []) (ws := [])
          (us := .ref (s.heap.objs.size + 1) :: us) (xs := .ref (s.heap.objs.size + 1) :: xs) (vs := .ref W.length :: vs) ((sd.room.mono (by omega) : RG (2 * m + 4 + 1) X.A).make (He.ga X.K C) us []) D (F m rfl) (I2.env0.make (He.ga X.K C) us []) I2.kIn S2 (.cons rx (r1.up U)) (.cons rfl v1) .nil .nil e ?_) fun r s' hq => ?_))
        · cases er : runD (T.calls (callF T m)) d as (W ++ [.ins C []]) with
          | ok v w =>
            rw [er] at p
            cases v with
            | non =>
              intro ρ' H' u u' s3 r3
              unfold RelM at r3; subst r3
              refine ⟨rfl, p ρ' H' _ (U.trans u') s3 ?_⟩
              exact RelM.up u' rx
            | _ => exact p.elim
          | err x w =>
            rw [er] at p
            exact fun ρ' H' c d' u' => p ρ' H' c d' (U.trans u')
          | bad => rw [er] at p; exact p.elim
        · cases r with
          | error er => exact sd.tk er s' (XE.of_call I2 (fun cls d H' h => h) hq)
          | ok fl =>
            cases fl with
            | ret u =>
              obtain ⟨v, H', I3, rv, ev, q3⟩ := I2.after hq
              subst ev
              exact ⟨rv, .ref (s.heap.objs.size + 1), H', I3, rfl, q3⟩
            | next => exact False.elim hq
            | brk => exact False.elim hq
            | cont => exact False.elim hq
theorem me_mk (sd : Snd T n X Wx) (tx : CallTx X es [] [] pos) (h0 : es = [] → fs = fun _ => ret []) (hC : T.clss.contains C = true) (hp : T.props.contains (C, "__init__") = false) (hg : Gl X C) (hdb : (C == ("__debug__" : Str)) = false)
    (hs : PA X es (tMs X.K Wx fs)) : PE X (.Call (.Name C p0) es [] pos) (tM X.K Wx fun S => bnd (fs S) fun vs => mkM (T.calls (callF T n)) C vs) := by
  refine ⟨fun pins s σ H Q I h => ?_⟩
  obtain ⟨ρ, S, W, r, sm, p⟩ := h
  obtain ⟨_, hm, M⟩ := sd.txt.cls C hC
  refine wpAny_Call_Name_kw (ld_glob I hg hm ?_ hdb)
  have p2 : PostR (rV X.K) X.K Wx σ ρ H Q (bnd (fs S) (fun vs => bnd ((fun _ : Env => (ret [] : Mir.M (List MV))) S) fun _ => mkM (T.calls (callF T n)) C vs) W) := p
  exact args_then (first := []) (fk := fun _ => ret []) (g := fun vs _ => mkM (T.calls (callF T n)) C vs) hs mk_nil M.kp I tx.all tx.ks tx.pl tx.st h0 r sm p2
    fun us ws s2 ρ2 W2 vs kvs xs ys H2 u I2 s3 r3 r4 v3 v4 p3 => run_mk sd hC hp I2 s3 r3 v3 p3

/-! ### attributes -/
theorem att_no {c : Calls} {v : MV} {W : Wd} {x : Exn} {w : Wd} : attM c f v W ≠ .err x w := by
  cases v <;> simp only [attM] <;> (repeat' split) <;> simp [stuck]
theorem look_f {a : List (Str × MV)} {b : List (Str × V)} {K : PySem.W.Frag} (r : RelF ρ K H a b) {v : MV} (h : a.lookup f = some v) : ∃ u, b.lookup f = some u ∧ RelM ρ K H v u := by
  obtain ⟨e, r⟩ := r
  induction a generalizing b with
  | nil => cases h
  | cons y a ih =>
    cases b with
    | nil => simp at e
    | cons z b =>
      obtain ⟨y1, y2⟩ := y
      obtain ⟨z1, z2⟩ := z
      simp only [List.map_cons, List.cons.injEq] at e r
      obtain ⟨rfl, e⟩ := e
      obtain ⟨u, t, e2, r1, r2⟩ := r.uncons
      cases e2
      simp only [List.lookup_cons] at h ⊢
      split at h
      · cases h; exact ⟨_, rfl, r1⟩
      · exact ih h e r2
theorem me_att (sd : Snd T n X Wx) (ho : PE X o (tM X.K Wx fo)) (hab : attributeBase o f X.env (eval o X.env) = eval o X.env) :
    PE X (.Attribute o f pos) (tM X.K Wx fun S => bnd (fo S) fun v => attM (T.calls (callF T n)) f v) := by
  refine ⟨fun pins s σ H Q I h => ?_⟩
  refine attr_of hab (thn (ho.run pins s σ H _ I (tM_then (R := rV X.K) (f := fun v _ => attM (T.calls (callF T n)) f v) (Q := fun x H1 => ∃ ρ W v, SimW ρ X.K W H1 ∧ RelM ρ X.K H1 v x ∧ PostR (rV X.K) X.K Wx σ ρ H1 Q (attM (T.calls (callF T n)) f v W)) h
    fun ρ S W v u H1 r s1 r1 p => ⟨ρ, W, v, s1, r1, p⟩)) fun u s1 ⟨x, H1, I1, rx, ρ, W, v, sm, r1, p⟩ => ?_)
  cases v with
  | ref i =>
    have r1' := r1
    unfold RelM at r1'
    obtain ⟨q, rfl, eq⟩ := r1'
    obtain rfl : u = Value.ref q := rx
    simp only [attM] at p
    split at p
    · next C fds eW =>
      obtain ⟨dx, gs, hH, hF⟩ := sm.cell _ _ _ eW eq
      split at p
      · exact p.elim
      · next hown =>
        have hown2 : T.clss.contains C = true := by
          cases e : T.clss.contains C with
          | true => rfl
          | false => exact absurd (show (T.calls (callF T n)).own C = false from e) hown
        clear hown
        obtain ⟨Cl, _, _⟩ := sd.txt.cls C hown2
        split at p
        · next hprop =>
          have hprop : T.props.contains (C, f) = true := hprop
          have hfn : (T.calls (callF T n)).fn (C, some f) [.ref i] [] W = callF T n (C, some f) [.ref i] [] W := rfl
          rw [hfn] at p
          cases n with
          | zero => exact p.elim
          | succ m =>
            unfold callF at p
            cases hd : T.fns.lookup (C, some f) with
            | none => rw [hd] at p; exact p.elim
            | some d =>
              rw [hd] at p
              dsimp only at p
              obtain ⟨pa, g, PO, G⟩ := sd.txt.prp C f d hown2 hprop hd
              obtain ⟨x, qual, body, scope, fd, D, F⟩ := G
              cases e : bindL d.ps [.ref i] [] d.dfl with
              | none => rw [e] at p; exact p.elim
              | some as =>
                rw [e] at p
                dsimp only at p
                -- the getter runs
                obtain ⟨mA, O, _, _, _, _⟩ := ins_get I1.hok hH
                obtain ⟨od, J, _⟩ := O.look
                obtain ⟨rest, hrec⟩ := PO.rec_
                have hcls : (PySem.W.clsIn X.K (He.ga X.K C)).isSome = true := by
                  obtain ⟨cd, hc, _⟩ := PySem.W.any_some Cl.hd
                  rw [hc] <;> rfl
                have It := I1.tok (s1.toks + 1)
                refine PySem.W.get_bind I1.kIn J (PySem.W.plainGet_of (Cl.get f)).1 (PySem.W.findObj_data hcls PO.at_ PO.get PO.tak) (PySem.W.plainGet_of (Cl.get f)).2 (wpAny_call (PySem.W.prop_get (s := { s1 with toks := s1.toks + 1 }) I1.kIn hrec ?_))
                refine codeAny_mono (core_g (E := fun _ _ _ => False) (Q := Q) (ks := []) (kvs := []) (ys := []) (ws := []) (us := [.ref q]) (xs := [.ref q]) (vs := [.ref i]) ((sd.room.mono (by omega) : RG (2 * m + 4 + 1) X.A).in1) D (F m rfl) It.env0.in1 It.kIn sm (.cons r1 .nil) (.cons rfl .nil) .nil .nil e ?_) fun r s' hq => ?_
                · cases er : runD (T.calls (callF T m)) d as W with
                  | ok v w => rw [er] at p; exact p
                  | err x w => rw [er] at p; exact p.elim
                  | bad => rw [er] at p; exact p.elim
                · cases r with
                  | error er =>
                    obtain ⟨_, _, _, _, _, _, _, _, _, _, _, _, z⟩ := hq
                    exact z.elim
                  | ok fl =>
                    cases fl with
                    | ret y =>
                      obtain ⟨v, H', I3, rv, q3⟩ := It.after hq
                      show wpAny _ _ (handedOut y) _ _ _
                      rw [PySem.W.handedOut_of (handed_of rv)]
                      exact wpAny_pure ⟨v, H', I3, rv, q3⟩
                    | next => exact False.elim hq
                    | brk => exact False.elim hq
                    | cont => exact False.elim hq
        · split at p
          · next v hv =>
            split at p
            · next hfl =>
              obtain ⟨y, e1, e2⟩ := look_f hF hv
              exact getattr_ok I1 hH Cl (sd.txt.fld C f hown2 hfl) e1 fun u' s2 I2 ru => ⟨y, H1, I2, ru, p.now sm e2⟩
            · exact p.elim
          · exact p.elim
    · exact p.elim
  | _ => exact p.elim
end
end Mir
set_option Elab.async false
set_option linter.all false
set_option maxRecDepth 100000
set_option maxHeartbeats 4000000
/-! MStmt: statements. -/
namespace Mir
open PySem L2
/-- what is wanted of a statement's outcome -/
def PostS (K : PySem.W.Frag) (Wx : WL) (ρ : List Addr) (H : Hp) (D : Ends) : Res Fl → Prop
  | .ok (.nx S') W' => ∀ ρ' H' σ', Up ρ H ρ' H' → SimW ρ' K W' H' → RelS Wx.e ρ' K H' S' σ' → D.nx σ' H'
  | .ok (.bk S') W' => ∀ ρ' H' σ', Up ρ H ρ' H' → SimW ρ' K W' H' → RelS Wx.e ρ' K H' S' σ' → D.bk σ' H'
  | .ok (.ct S') W' => ∀ ρ' H' σ', Up ρ H ρ' H' → SimW ρ' K W' H' → RelS Wx.e ρ' K H' S' σ' → D.ct σ' H'
  | .ok (.rt v) W' => ∀ ρ' H' u, Up ρ H ρ' H' → SimW ρ' K W' H' → RelM ρ' K H' v u → D.rt u H'
  | .ok (.ex e S') W' => ∀ ρ' H' σ' cls d, Up ρ H ρ' H' → SimW ρ' K W' H' → RelS Wx.e ρ' K H' S' σ' → ExnRel ρ' K H' e cls d → Wx cls d σ' H'
  | _ => False
def tS (K : PySem.W.Frag) (Wx : WL) (m : Env → M Fl) : TS := fun D σ H => ∃ ρ S W, RelS Wx.e ρ K H S σ ∧ SimW ρ K W H ∧ PostS K Wx ρ H D (m S W)
theorem PostS.up {K : PySem.W.Frag} {Wx : WL} {ρ ρ' : List Addr} {H H' : Hp} {D : Ends} {r : Res Fl} (u : Up ρ H ρ' H') (h : PostS K Wx ρ H D r) : PostS K Wx ρ' H' D r := by
  cases r with
  | ok f w =>
    cases f with
    | nx S => exact fun a b c d => h a b c (u.trans d)
    | bk S => exact fun a b c d => h a b c (u.trans d)
    | ct S => exact fun a b c d => h a b c (u.trans d)
    | rt v => exact fun a b c d => h a b c (u.trans d)
    | ex e S => exact fun a b c d e f => h a b c d e (u.trans f)
  | err e w => exact h.elim
  | bad => exact h.elim
/-- an expression of a statement, first -/
theorem tS_from {α β : Type} {R : Rl α β} {K : PySem.W.Frag} {Wx : WL} {m : Env → M α} {g : α → M Fl} {Q : β → Hp → Prop} {σ : L2.St} {ρ : List Addr} {H : Hp} {S : Env} {W : Wd} {D : Ends}
    (r : RelS Wx.e ρ K H S σ) (s : SimW ρ K W H) (p : PostS K Wx ρ H D (bndX S (m S) g W))
    (k : ∀ ρ1 W1 v u H1, Up ρ H ρ1 H1 → SimW ρ1 K W1 H1 → R ρ1 H1 v u → PostS K Wx ρ1 H1 D (g v W1) → Q u H1) : tMR R K Wx m σ H Q := by
  refine ⟨ρ, S, W, r, s, ?_⟩
  unfold bndX at p
  cases e1 : m S W with
  | ok v W1 =>
    rw [e1] at p
    intro ρ1 H1 u u1 s1 r1
    exact k ρ1 W1 v u H1 u1 s1 r1 (PostS.up u1 p)
  | err x W1 =>
    rw [e1] at p
    exact fun ρ1 H1 c d u1 s1 e => p ρ1 H1 σ c d u1 s1 (r.up u1) e
  | bad => rw [e1] at p; exact p.elim
section
variable {X : Cx} {Wx : WL} {e o i d : Expr} {fe fo fi : Env → M MV} {ft : Env → M Bool} {a b : List Stmt} {fa fb : Env → M Fl} {pos pos' : Pos} {st : Stmt} {rest : List Stmt}
theorem ps_wk {t t' : TS} (h : PS X st t) (k : ∀ D σ H, t' D σ H → t D σ H) : PS X st t' := ⟨fun pins s σ H D I q => h.run pins s σ H D I (k D σ H q)⟩
theorem pss_wk {t t' : TS} (h : PSs X a t) (k : ∀ D σ H, t' D σ H → t D σ H) : PSs X a t' := ⟨fun pins s σ H D I q => h.run pins s σ H D I (k D σ H q)⟩
theorem ss_nil : PSs X [] (tS X.K Wx fun S => ret (.nx S)) := pss_wk pss_nil fun D σ H ⟨ρ, S, W, r, s, p⟩ => p ρ H σ .refl s r
theorem ss_cons (h1 : PS X st (tS X.K Wx fa)) (h2 : PSs X rest (tS X.K Wx fb)) : PSs X (st :: rest) (tS X.K Wx fun S w => match fa S w with
    | .ok (.nx S') w' => fb S' w'
    | x => x) := by
  refine pss_wk (pss_cons h1 h2) fun D σ H ⟨ρ, S, W, r, s, p⟩ => ⟨ρ, S, W, r, s, ?_⟩
  dsimp only at p
  cases e : fa S W with
  | ok f w =>
    rw [e] at p
    cases f with
    | nx S' => exact fun ρ' H' σ' u s' r' => ⟨ρ', S', w, r', s', PostS.up u p⟩
    | bk S' => exact p
    | ct S' => exact p
    | rt v => exact p
    | ex x S' => exact p
  | err x w => rw [e] at p; exact p.elim
  | bad => rw [e] at p; exact p.elim
theorem ss_pass : PS X (.Pass pos) (tS X.K Wx fun S => ret (.nx S)) := ps_wk ps_pass fun D σ H ⟨ρ, S, W, r, s, p⟩ => p ρ H σ .refl s r
theorem ss_brk : PS X (.Break pos) (tS X.K Wx fun S => ret (.bk S)) := ps_wk ps_break fun D σ H ⟨ρ, S, W, r, s, p⟩ => p ρ H σ .refl s r
theorem ss_cnt : PS X (.Continue pos) (tS X.K Wx fun S => ret (.ct S)) := ps_wk ps_continue fun D σ H ⟨ρ, S, W, r, s, p⟩ => p ρ H σ .refl s r
theorem ss_expr (he : PE X e (tM X.K Wx fe)) (hs : swapsWith e none pos.line X.env = pure false) : PS X (.Expr e pos) (tS X.K Wx fun S => bndX S (fe S) fun _ => ret (.nx S)) :=
  ps_wk (ps_expr he hs) fun D σ H ⟨ρ, S, W, r, s, p⟩ => tS_from (R := rV X.K) r s p fun ρ1 W1 v u H1 u1 s1 r1 p1 => p1 ρ1 H1 σ .refl s1 (r.up u1)
theorem ss_doc {x : Str} {j : Nat} : PS X (.Expr (.Constant (.str x) j pos) pos') (tS X.K Wx fun S => ret (.nx S)) := ps_wk ps_doc fun D σ H ⟨ρ, S, W, r, s, p⟩ => p ρ H σ .refl s r
theorem ss_ret (he : PE X e (tM X.K Wx fe)) : PS X (.Return (some e) pos) (tS X.K Wx fun S => bndX S (fe S) fun v => ret (.rt v)) :=
  ps_wk (ps_ret he) fun D σ H ⟨ρ, S, W, r, s, p⟩ => tS_from (R := rV X.K) r s p fun ρ1 W1 v u H1 u1 s1 r1 p1 => p1 ρ1 H1 u .refl s1 r1
theorem ss_retN : PS X (.Return none pos) (tS X.K Wx fun _ => ret (.rt .non)) :=
  ps_wk ps_retN fun D σ H ⟨ρ, S, W, r, s, p⟩ => p ρ H .non .refl s (by unfold RelM; rfl)
theorem ss_if (hd : PT X d (tMb X.K Wx ft)) (ha : PSs X a (tS X.K Wx fa)) (hb : PSs X b (tS X.K Wx fb)) : PS X (.If d a b pos) (tS X.K Wx fun S => bndX S (ft S) fun t => if t = true then fa S else fb S) := by
  refine ps_wk (ps_if hd ha hb) fun D σ H ⟨ρ, S, W, r, s, p⟩ => tS_from (R := rB) r s p fun ρ1 W1 v u H1 u1 s1 r1 p1 => ?_
  have e : v = u := r1
  subst e
  cases v with
  | true => exact ⟨ρ1, S, W1, r.up u1, s1, p1⟩
  | false => exact ⟨ρ1, S, W1, r.up u1, s1, p1⟩
/-! ### stores -/
/-- a target -/
structure GT (X : Cx) (Wx : WL) (tg : Expr) (f : MV → Env → M Env) : Prop where
  ex : ∃ g, PG X tg g ∧ ∀ ρ S W σ H v u (D : Ends), RelS Wx.e ρ X.K H S σ → SimW ρ X.K W H → RelM ρ X.K H v u → PostS X.K Wx ρ H D (bndX S (f v S) (fun S' => ret (.nx S')) W) → g u σ H D.nx
theorem gt_var {x : Str} {j : Nat} {xp : Pos} (h : PG X (.Name x xp) (gName j)) (hj : Wx.e.off j) : GT X Wx (.Name x xp) (fun v S => ret (S.set j (some v))) := by
  refine ⟨_, h, fun ρ S W σ H v u D r s rv p => ?_⟩
  exact p ρ H _ .refl s (r.set j rv hj)
theorem gt_sub (ho : PE X o (tM X.K Wx fo)) (hi : PE X i (tM X.K Wx fi)) (ha : ∀ v, assign (.Subscript o i pos) X.env v = (do
      let ov ← holding [v] (eval o X.env)
      let iv ← holding [v, ov] (eval i X.env)
      standAt pos
      holding [v, ov, iv] (setItem ov iv v)
      release [v, ov, iv] [])) : GT X Wx (.Subscript o i pos) (fun v S => bnd (fo S) fun p => bnd (fi S) fun k => bnd (setM p k v) fun _ => ret S) := by
  refine ⟨_, pg_sub ho hi set_list ha, fun ρ S W σ H v u D r s rv p => ?_⟩
  have p1 : PostS X.K Wx ρ H D (bndX S (fo S) (fun q => bndX S (fi S) fun k => bndX S (setM q k v) fun _ => ret (.nx S)) W) := by
    have e : bndX S (bnd (fo S) fun p => bnd (fi S) fun k => bnd (setM p k v) fun _ => ret S) (fun S' => ret (.nx S')) W = bndX S (fo S) (fun q => bndX S (fi S) fun k => bndX S (setM q k v) fun _ => ret (.nx S)) W := by
      simp only [bndX, bnd]
      cases fo S W with
      | ok q w =>
        dsimp only
        cases fi S w with
        | ok k w2 =>
          dsimp only
          cases setM q k v w2 <;> rfl
        | err x w2 => rfl
        | bad => rfl
      | err x w => rfl
      | bad => rfl
    rw [← e]; exact p
  refine tS_from (R := rV X.K) r s p1 fun ρ1 W1 q x1 H1 u1 s1 r1 p2 => ?_
  refine tS_from (R := rV X.K) (r.up u1) s1 p2 fun ρ2 W2 k x2 H2 u2 s2 r2 p3 => ?_
  have r1' : RelM ρ2 X.K H2 q x1 := RelM.up u2 r1
  have rv' := RelM.up (u1.trans u2) rv
  unfold bndX at p3
  cases q with
  | ref n =>
    cases k with
    | int j =>
      unfold RelM at r1'
      obtain ⟨c, rfl, ec⟩ := r1'
      have r2' : RelM ρ2 X.K H2 (.int j) x2 := r2
      unfold RelM at r2'; subst r2'
      simp only [setM] at p3
      split at p3
      · next q W3 hq =>
        split at hq
        · next xs ex =>
          split at hq
          · next jj ej =>
            cases hq
            obtain ⟨vs, h1, q1⟩ := s2.lst ex ec
            refine ⟨c, vs, j, jj, rfl, rfl, h1, by rw [← q1.length]; exact ej, ?_⟩
            have U : Up ρ2 H2 ρ2 (upd H2 c (.lst (vs.set jj u))) := Up.write h1 (fun _ z => by cases z) (fun _ _ z => by cases z) (fun _ z => by cases z)
            obtain ⟨S3, _⟩ := s2.write (c' := .lst (xs.set jj v)) (o := .lst (vs.set jj u)) ex ec rfl ⟨_, upd_same, (RelMs.set rv' jj q1).up U⟩
            exact p3 ρ2 _ σ U S3 (r.up ((u1.trans u2).trans U))
          · cases hq
        · cases hq
      · next e W3 hq => split at hq <;> (try split at hq) <;> cases hq
      · exact p3.elim
    | _ => exact p3.elim
  | _ => exact p3.elim
/-- a tuple of names -/
inductive Nms (X : Cx) (L : Lk) : List Expr → List Nat → Prop where
  | nil : Nms X L [] []
  | cons {x : Str} {j : Nat} {xp : Pos} {ts : List Expr} {js : List Nat} (h : PG X (.Name x xp) (gName j)) (hs : starEach [.Name x xp] X.env = [(false, eval (.Name x xp) X.env)]) (hj : L.off j) (r : Nms X L ts js) : Nms X L (.Name x xp :: ts) (j :: js)
theorem nms_ok {L : Lk} {ts : List Expr} {js : List Nat} (h : Nms X L ts js) : ∃ g, PGs X ts g ∧ ∀ ρ S σ H vs us (Q : L2.St → Hp → Prop), RelS L ρ X.K H S σ → RelMs ρ X.K H vs us → vs.length = js.length → (∀ σ', RelS L ρ X.K H (setAll S js vs) σ' → Q σ' H) → g us σ H Q := by
  induction h with
  | nil =>
    refine ⟨_, pgs_nil, fun ρ S σ H vs us Q r rs hl k => ?_⟩
    cases vs with
    | nil => unfold RelMs at rs; subst rs; exact ⟨rfl, k σ r⟩
    | cons _ _ => simp at hl
  | @cons x j xp ts js h hs hj r ih =>
    obtain ⟨g, h1, h2⟩ := ih
    refine ⟨_, pgs_cons h h1, fun ρ S σ H vs us Q rS rs hl k => ?_⟩
    cases vs with
    | nil => simp at hl
    | cons v vs =>
      obtain ⟨y, t, rfl, a, b⟩ := rs.uncons
      exact ⟨y, t, rfl, h2 ρ (S.set j (some v)) _ H vs t Q (rS.set j a hj) b (by simpa using hl) k⟩
theorem nms_each {L : Lk} {ts : List Expr} {js : List Nat} (h : Nms X L ts js) : (assignEach ts X.env).length = js.length ∧ (assignEach ts X.env).findIdx? (·.1) = none := by
  induction h with
  | nil => exact ⟨rfl, rfl⟩
  | cons h hs hj r ih =>
    refine ⟨by show (_ :: assignEach _ _).length = _; simp [ih.1], ?_⟩
    show List.findIdx? _ ((false, _) :: assignEach _ _) = none
    simp [List.findIdx?_cons, ih.2]
theorem gt_tup {ts : List Expr} {js : List Nat} {k : Nat} (hc : X.calm = true) (h : Nms X Wx.e ts js) : GT X Wx (.Tuple ts k pos) (fun v S => bnd (itemsT v) fun xs => if xs.length = js.length then ret (setAll S js xs) else stuck) := by
  obtain ⟨g, h1, h2⟩ := nms_ok h
  refine ⟨_, pg_tup (n := js.length) hc h1 (nms_each h).1 (nms_each h).2, fun ρ S W σ H v u D r s rv p => ?_⟩
  cases v with
  | tup xs =>
    unfold RelM at rv
    obtain ⟨c, vs, rfl, s1, q⟩ := rv
    simp only [itemsT, bnd, bndX, ret] at p
    split at p
    · next S' W' hq =>
      split at hq
      · next hlen =>
        cases hq
        exact ⟨c, vs, rfl, s1, by rw [← q.length]; exact hlen, h2 ρ S σ H xs vs _ r q hlen fun σ' r' => p ρ H σ' .refl s r'⟩
      · cases hq
    · next hq => split at hq <;> cases hq
    · exact p.elim
  | _ => exact p.elim
theorem ss_asg {tg : Expr} {f : MV → Env → M Env} (he : PE X e (tM X.K Wx fe)) (hg : GT X Wx tg f) (hs : swapsWithSole [tg] e pos.line X.env = pure false) (hw : swappedStores [tg] e X.env = pure none) (h9 : (assignEach [tg] X.env).map (·.2) = [assign tg X.env]) :
    PS X (.Assign [tg] e pos) (tS X.K Wx fun S => bndX S (fe S) fun v => bndX S (f v S) fun S' => ret (.nx S')) := by
  obtain ⟨g, h1, h2⟩ := hg.ex
  exact ps_wk (ps_asg he h1 hs hw h9) fun D σ H ⟨ρ, S, W, r, s, p⟩ => tS_from (R := rV X.K) r s p fun ρ1 W1 v u H1 u1 s1 r1 p1 => h2 ρ1 S W1 σ H1 v u D (r.up u1) s1 r1 p1
/-- a, b = x, y and a, b, c = x, y, z, stored without a tuple -/
theorem par_rd {fs : Env → M (List MV)} {js : List Nat} {σ : L2.St} {H : Hp} {D : Ends} {es : List Expr} (hj : js.length ≤ 3)
    (h : tS X.K Wx (fun S => bndX S (bnd (fs S) fun vs => if vs.length ≤ sizeLine then ret (.tup vs) else stuck) fun v => bndX S (bnd (itemsT v) fun xs => if xs.length = js.length then ret (setAll S js xs) else stuck) fun S' => ret (.nx S')) D σ H) :
    tMs X.K Wx fs σ H (fun us H1 => ∃ ρ S W vs, vs.length = js.length ∧ RelS Wx.e ρ X.K H1 S σ ∧ SimW ρ X.K W H1 ∧ RelMs ρ X.K H1 vs us ∧ ∀ σ', RelS Wx.e ρ X.K H1 (setAll S js vs) σ' → D.nx σ' H1) := by
  obtain ⟨ρ, S, W, r, s, p⟩ := h
  refine ⟨ρ, S, W, r, s, ?_⟩
  simp only [bndX, bnd] at p
  cases e : fs S W with
  | err x w => rw [e] at p; exact fun ρ1 H1 c d u1 s1 ex => p ρ1 H1 σ c d u1 s1 (r.up u1) ex
  | bad => rw [e] at p; exact p.elim
  | ok vs W1 =>
    rw [e] at p
    intro ρ1 H1 us u1 s1 r1
    dsimp only at p
    split at p
    · next v W2 hv =>
      split at hv
      · next hl =>
        cases hv
        simp only [itemsT, ret] at p
        split at p
        · next S' W3 hS =>
          split at hS
          · next hlen =>
            cases hS
            exact ⟨ρ1, S, W1, vs, hlen, r.up u1, s1, r1, fun σ' r' => p ρ1 H1 σ' u1 s1 r'⟩
          · cases hS
        · next hS => split at hS <;> cases hS
        · exact p.elim
      · cases hv
    · next hv => split at hv <;> cases hv
    · exact p.elim
theorem ss_par2 {j k : Nat} {x y : Str} {a b : Expr} {px py pt : Pos} {kt k2 : Nat} {pt2 : Pos} {fs : Env → M (List MV)} (hc : X.calm = true) (hN : X.N.Nodup) (hi : X.N[j]? = some x) (hj : X.N[k]? = some y) (hij : j ≠ k) (oj : Wx.e.off j) (ok : Wx.e.off k)
    (hx : X.env.scope.names.lookup x = some .local) (hy : X.env.scope.names.lookup y = some .local) (ha : PA X [a, b] (tMs X.K Wx fs))
    (hw : swappedStores [.Tuple [.Name x px, .Name y py] kt pt] (.Tuple [a, b] k2 pt2) X.env = pure (some [x, y]))
    (hs : swapsWithSole [.Tuple [.Name x px, .Name y py] kt pt] (.Tuple [a, b] k2 pt2) pos.line X.env = pure false) :
    PS X (.Assign [.Tuple [.Name x px, .Name y py] kt pt] (.Tuple [a, b] k2 pt2) pos) (tS X.K Wx fun S => bndX S (bnd (fs S) fun vs => if vs.length ≤ sizeLine then ret (.tup vs) else stuck) fun v => bndX S (bnd (itemsT v) fun xs => if xs.length = [j, k].length then ret (setAll S [j, k] xs) else stuck) fun S' => ret (.nx S')) := by
  refine ps_wk (ps_par hc hN hi hj hij hx hy ha hw hs) fun D σ H h => ?_
  obtain ⟨ρ, S, W, r, s, p⟩ := par_rd (es := []) (by simp) h
  refine ⟨ρ, S, W, r, s, ?_⟩
  cases e : fs S W with
  | err x w => rw [e] at p; exact p
  | bad => rw [e] at p; exact p.elim
  | ok vs W1 =>
    rw [e] at p
    intro ρ1 H1 us u1 s1 r1
    obtain ⟨ρ2, S2, W2, vs2, hl, rS, sW, rM, k2⟩ := p ρ1 H1 us u1 s1 r1
    match vs2, hl with
    | [v1, v2], _ =>
      obtain ⟨x1, x2, rfl, q1, q2⟩ := relMs2 rM
      exact ⟨x1, x2, rfl, k2 _ ((rS.set _ q1 oj).set _ q2 ok)⟩
theorem ss_par3 {j k l : Nat} {x y z : Str} {a b c : Expr} {px py pz pt : Pos} {kt k2 : Nat} {pt2 : Pos} {fs : Env → M (List MV)} (hc : X.calm = true) (hN : X.N.Nodup) (hi : X.N[j]? = some x) (hj : X.N[k]? = some y) (hk : X.N[l]? = some z) (h12 : j ≠ k) (h13 : j ≠ l) (h23 : k ≠ l) (oj : Wx.e.off j) (ok : Wx.e.off k) (ol : Wx.e.off l)
    (hx : X.env.scope.names.lookup x = some .local) (hy : X.env.scope.names.lookup y = some .local) (hz : X.env.scope.names.lookup z = some .local) (ha : PA X [a, b, c] (tMs X.K Wx fs))
    (hw : swappedStores [.Tuple [.Name x px, .Name y py, .Name z pz] kt pt] (.Tuple [a, b, c] k2 pt2) X.env = pure (some [x, y, z]))
    (hs : swapsWithSole [.Tuple [.Name x px, .Name y py, .Name z pz] kt pt] (.Tuple [a, b, c] k2 pt2) pos.line X.env = pure false) :
    PS X (.Assign [.Tuple [.Name x px, .Name y py, .Name z pz] kt pt] (.Tuple [a, b, c] k2 pt2) pos) (tS X.K Wx fun S => bndX S (bnd (fs S) fun vs => if vs.length ≤ sizeLine then ret (.tup vs) else stuck) fun v => bndX S (bnd (itemsT v) fun xs => if xs.length = [j, k, l].length then ret (setAll S [j, k, l] xs) else stuck) fun S' => ret (.nx S')) := by
  refine ps_wk (ps_par3 hc hN hi hj hk h12 h13 h23 hx hy hz ha hw hs) fun D σ H h => ?_
  obtain ⟨ρ, S, W, r, s, p⟩ := par_rd (es := []) (by simp) h
  refine ⟨ρ, S, W, r, s, ?_⟩
  cases e : fs S W with
  | err x w => rw [e] at p; exact p
  | bad => rw [e] at p; exact p.elim
  | ok vs W1 =>
    rw [e] at p
    intro ρ1 H1 us u1 s1 r1
    obtain ⟨ρ2, S2, W2, vs2, hl, rS, sW, rM, k2⟩ := p ρ1 H1 us u1 s1 r1
    match vs2, hl with
    | [v1, v2, v3], _ =>
      obtain ⟨x1, t, rfl, q1, q2⟩ := rM.uncons
      obtain ⟨x2, x3, rfl, q3, q4⟩ := relMs2 q2
      exact ⟨x1, x2, x3, rfl, k2 _ (((rS.set _ q1 oj).set _ q3 ok).set _ q4 ol)⟩
end
end Mir
set_option Elab.async false
set_option linter.all false
set_option maxRecDepth 100000
set_option maxHeartbeats 4000000
/-! MStmt2: more stores, loops. -/
namespace Mir
open PySem L2
section
variable {T : Prog} {n : Nat} {X : Cx} {Wx : WL} {e o d elt : Expr} {fe fo : Env → M MV} {ft : Env → M Bool} {fi : Env → M Itm} {b : List Stmt} {fb : Env → M Fl} {pos pos' : Pos} {x f : Str} {j : Nat} {xp : Pos}
/-- name = [.. for .. in ..] on one line, the name a local -/
theorem ss_asgLc {it : Env → M Itm} {iter : Expr} {ifs : List Expr} {scope : Scope} {y : Str} {i : Nat} {yp cpos : Pos} (hc : X.calm = true) (hN : X.N.Nodup) (oj : Wx.e.off j)
    (hy : X.N[j]? = some x) (hyl : X.env.scope.names.lookup x = some .local) (hsw : swapsWith (.ListComp elt [⟨.Name y yp, iter, ifs, 0⟩] scope cpos) (some (.Name x xp)) pos.line X.env = pure true)
    (hi : PI X (.Name y yp) iter (iM X.K Wx it)) (ok : BlkOk X.N X.env.scope scope [(y, i)])
    (hg : ∀ (s : Shared) (H : Hp) (C : Addr) (cl : List (Str × Addr)) (fp : List Addr), PG (X.blk s H scope (compEnvC scope cl C X.env) fp) (.Name y yp) (gName i))
    (ht : ∀ (s : Shared) (H : Hp) (C : Addr) (cl : List (Str × Addr)) (fp : List Addr), PTs (X.blk s H scope (compEnvC scope cl C X.env) fp) ifs (tMb X.K noL ft))
    (he : ∀ (s : Shared) (H : Hp) (C : Addr) (cl : List (Str × Addr)) (fp : List Addr), PE (X.blk s H scope (compEnvC scope cl C X.env) fp) elt (tM X.K noL fe))
    (hs : ∀ x, foldedSetIterable iter X.env x = pure x) :
    PS X (.Assign [.Name x xp] (.ListComp elt [⟨.Name y yp, iter, ifs, 0⟩] scope cpos) pos) (tS X.K Wx fun S => bndX S (bnd (it S) fun I => compM I fun x => bnd (ft (S.set i (some x))) fun t => if t = true then bnd (fe (S.set i (some x))) fun y => ret (some y) else ret none) fun v => bndX S (ret (S.set j (some v))) fun S' => ret (.nx S')) := by
  refine ps_wk (ps_setLc hc hN hy hyl hsw hi ok hg ht he hs) fun D σ H ⟨ρ, S, W, r, s, p⟩ => ?_
  refine comp_rd (Wx := Wx) (fe := fe) (ft := ft) (it := it) ?_
  exact tS_from (R := rV X.K) r s p fun ρ1 W1 v u H1 u1 s1 r1 p1 => p1 ρ1 H1 _ .refl s1 ((r.up u1).set j r1 oj)
/-- o.f = e -/
theorem setF_rel {ρ : List Addr} {K : PySem.W.Frag} {H : Hp} {v : MV} {u : V} (rv : RelM ρ K H v u) : ∀ {a : List (Str × MV)} {b : List (Str × V)}, RelF ρ K H a b → RelF ρ K H (setF f v a) (putF f u b) := by
  intro a
  induction a with
  | nil =>
    intro b r
    cases b with
    | nil => exact ⟨rfl, .cons rv .nil⟩
    | cons _ _ => have := r.1; simp at this
  | cons y a ih =>
    intro b r
    cases b with
    | nil => have := r.1; simp at this
    | cons z b =>
      obtain ⟨y1, y2⟩ := y
      obtain ⟨z1, z2⟩ := z
      obtain ⟨e, r⟩ := r
      simp only [List.map_cons, List.cons.injEq] at e r
      obtain ⟨rfl, e⟩ := e
      obtain ⟨u', t, e2, r1, r2⟩ := r.uncons
      cases e2
      unfold setF putF
      split
      · next h => exact ⟨by simp [e], .cons rv r2⟩
      · next h =>
        obtain ⟨i1, i2⟩ := ih (b := b) ⟨e, r2⟩
        exact ⟨by simp [i1], .cons r1 i2⟩
theorem ss_att (sd : Snd T n X Wx) (he : PE X e (tM X.K Wx fe)) (ho : PE X o (tM X.K Wx fo)) (hs : swapsWith e (some (.Attribute o f pos')) pos.line X.env = pure false) :
    PS X (.Assign [.Attribute o f pos'] e pos) (tS X.K Wx fun S => bndX S (fe S) fun v => bndX S (bnd (fo S) fun p => bnd (attS (T.calls (callF T n)) f p v) fun _ => ret S) fun S' => ret (.nx S')) := by
  refine ps_wk (ps_fld ho he hs) fun D σ H ⟨ρ, S, W, r, s, p⟩ => ?_
  refine tS_from (R := rV X.K) r s p fun ρ1 W1 v u H1 u1 s1 rv p1 => ?_
  have p2 : PostS X.K Wx ρ1 H1 D (bndX S (fo S) (fun q => bndX S (attS (T.calls (callF T n)) f q v) fun _ => ret (.nx S)) W1) := by
    have e : bndX S (bnd (fo S) fun p => bnd (attS (T.calls (callF T n)) f p v) fun _ => ret S) (fun S' => ret (.nx S')) W1 = bndX S (fo S) (fun q => bndX S (attS (T.calls (callF T n)) f q v) fun _ => ret (.nx S)) W1 := by
      simp only [bndX, bnd]
      cases fo S W1 with
      | ok q w =>
        dsimp only
        cases attS (T.calls (callF T n)) f q v w <;> rfl
      | err x w => rfl
      | bad => rfl
    rw [← e]; exact p1
  refine tS_from (R := rV X.K) (r.up u1) s1 p2 fun ρ2 W2 q x2 H2 u2 s2 r2 p3 => ?_
  have rv' := RelM.up u2 rv
  unfold bndX at p3
  cases q with
  | ref i =>
    have r2' : RelM ρ2 X.K H2 (.ref i) x2 := r2
    unfold RelM at r2'
    obtain ⟨c, rfl, ec⟩ := r2'
    simp only [attS] at p3
    split at p3
    · next q W3 hq =>
      split at hq
      · next C fds ex =>
        split at hq
        · next hc =>
          cases hq
          obtain ⟨dx, gs, h1, hF⟩ := s2.cell _ _ _ ex ec
          obtain ⟨Cl, _, _⟩ := sd.txt.cls C hc.2.1
          have hlen : fds.length = gs.length := by have := congrArg List.length hF.1; simpa using this
          refine ⟨c, He.ga X.K C, dx, gs, rfl, h1, Cl, sd.txt.fld C f hc.2.1 hc.2.2, by rw [← hlen]; omega, ?_⟩
          have U : Up ρ2 H2 ρ2 (upd H2 c (.ins (He.ga X.K C) dx (putF f u gs))) := Up.write h1 (fun _ z => by cases z) (fun _ _ z => by cases z) (fun _ z => by cases z)
          obtain ⟨S3, _⟩ := s2.write (c' := .ins C (setF f v fds)) (o := .ins (He.ga X.K C) dx (putF f u gs)) ex ec rfl ⟨dx, _, upd_same, (setF_rel rv' hF).up U⟩
          exact p3 ρ2 _ σ U S3 (r.up ((u1.trans u2).trans U))
        · cases hq
      · cases hq
    · next e W3 hq => split at hq <;> (try split at hq) <;> cases hq
    · exact p3.elim
  | _ => exact p3.elim
/-- x op= e, of numbers and texts -/
theorem ip_add_num : PIp X .Add (fun x y H Q => (∃ i j, x = .int i ∧ y = .int j ∧ Q (.int (i + j)) H) ∨ (∃ i j, x = .str i ∧ y = .str j ∧ i.length + j.length ≤ sizeLine ∧ Q (.str (i ++ j)) H)) := by
  intro pins s σ H x y v u Q I rx ry h
  rcases h with ⟨i, j, rfl, rfl, q⟩ | ⟨i, j, rfl, rfl, hl, q⟩
  · exact iop_add pins s σ H (.int i) (.int j) v u Q I rx ry ⟨i, j, rfl, rfl, q⟩
  · exact iop_add_str pins s σ H (.str i) (.str j) v u Q I rx ry ⟨i, j, rfl, rfl, hl, q⟩
def augM (op : Operator) (v u : MV) : M MV := match v with
  | .int _ => binM op v u
  | .str _ => binM op v u
  | _ => stuck
theorem ss_augAdd (oj : Wx.e.off j) (hN : X.N.Nodup) (hi : X.N[j]? = some x) (hx : Loc X.env.scope x) (hf : X.fn x = true ∨ X.env.scope.names.lookup x = some .local) (he : PE X e (tM X.K Wx fe)) :
    PS X (.AugAssign (.Name x xp) .Add e pos) (tS X.K Wx fun S => match S[j]? with
      | some (some v) => bndX S (fe S) fun u => bndX S (augM .Add v u) fun z => ret (.nx (S.set j (some z)))
      | _ => stuck) := by
  refine ps_wk (ps_aug hN hi hx he ip_add_num hf) fun D σ H ⟨ρ, S, W, r, s, p⟩ => ?_
  dsimp only at p
  cases e1 : S[j]? with
  | none => rw [e1] at p; exact p.elim
  | some o =>
    cases o with
    | none => rw [e1] at p; exact p.elim
    | some v =>
      rw [e1] at p
      obtain ⟨y, h1, h2⟩ := r.2.1 j v e1
      refine ⟨y, h1, tS_from (R := rV X.K) r s p fun ρ1 W1 u z H1 u1 s1 r1 p1 => ?_⟩
      have h3 := RelM.up u1 h2
      have r1' : RelM ρ1 X.K H1 u z := r1
      unfold bndX augM at p1
      cases v with
      | int i =>
        cases u with
        | int k =>
          unfold RelM at h3 r1'; subst h3 r1'
          exact .inl ⟨i, k, rfl, rfl, p1 ρ1 H1 _ .refl s1 ((r.up u1).set j (by unfold RelM; rfl) oj)⟩
        | _ => exact p1.elim
      | str i =>
        cases u with
        | str k =>
          unfold RelM at h3 r1'; subst h3 r1'
          simp only [binM, addM] at p1
          split at p1
          · next q W3 hq =>
            split at hq
            · next hl => cases hq; exact .inr ⟨i, k, rfl, rfl, hl, p1 ρ1 H1 _ .refl s1 ((r.up u1).set j (by unfold RelM; rfl) oj)⟩
            · cases hq
          · next hq => split at hq <;> cases hq
          · exact p1.elim
        | _ => exact p1.elim
      | _ => exact p1.elim

/-! ### for -/
theorem for_rd {i : Nat} (oi : Wx.e.off i) {σ : L2.St} {H : Hp} {D : Ends} (h : tS X.K Wx (fun S => bndX S (fi S) fun I => forL I (fun x S => fb (S.set i (some x))) I.len 0 S) D σ H) :
    tFor (iM X.K Wx fi) (gName i) (tS X.K Wx fb) D σ H := by
  obtain ⟨ρ, S, W, r, s, p⟩ := h
  refine tS_from (R := rIt X.K) r s p fun ρ1 W1 I J H1 u1 s1 rI p1 => ?_
  have rI : ItRel ρ1 X.K H1 I J := rI
  let body : MV → Env → M Fl := fun x S => fb (S.set i (some x))
  let Good : Nat → Nat → L2.St → Hp → Prop := fun t k σ' H' => t + k = I.len ∧ ∃ ρ' S' W', Up ρ1 H1 ρ' H' ∧ SimW ρ' X.K W' H' ∧ RelS Wx.e ρ' X.K H' S' σ' ∧ PostS X.K Wx ρ' H' D (forL I body k t S' W')
  refine ⟨Good, ⟨I.len, by omega, ρ1, S, W1, .refl, s1, r.up u1, p1⟩, fun t k σ' H' ⟨htk, ρ', S', W', u, s', r', p'⟩ => ?_⟩
  have rI' := rI.up u
  cases k with
  | zero =>
    simp only [forL] at p'
    split at p'
    · next hf => exact .inl ⟨it_stop s' rI' hf (by omega), p' ρ' H' σ' .refl s' r'⟩
    · exact p'.elim
  | succ k =>
    simp only [forL] at p'
    split at p'
    · exact p'.elim
    · next v hv =>
      obtain ⟨g1, g2⟩ := it_go s' rI' hv
      refine .inr ⟨g1, fun σ2 H2 => Good (t + 1) k σ2 H2, fun σ2 H2 g => ⟨k, Nat.lt_succ_self _, g⟩, fun x H2 y => ?_⟩
      obtain ⟨e2, rx⟩ := g2 x H2 y
      subst e2
      refine ⟨ρ', S'.set i (some v), W', r'.set i rx oi, s', ?_⟩
      have e3 : body v S' W' = fb (S'.set i (some v)) W' := rfl
      rw [e3] at p'
      cases e : fb (S'.set i (some v)) W' with
      | err x w => rw [e] at p'; exact p'.elim
      | bad => rw [e] at p'; exact p'.elim
      | ok fl w =>
        rw [e] at p'
        cases fl with
        | nx S2 => exact fun ρ2 H3 σ2 u2 s2 r2 => ⟨by omega, ρ2, S2, w, u.trans u2, s2, r2, PostS.up u2 p'⟩
        | ct S2 => exact fun ρ2 H3 σ2 u2 s2 r2 => ⟨by omega, ρ2, S2, w, u.trans u2, s2, r2, PostS.up u2 p'⟩
        | bk S2 => exact p'
        | rt y => exact p'
        | ex y S2 => exact p'
theorem ss_for {iter : Expr} {i : Nat} {y : Str} {yp : Pos} (oi : Wx.e.off i) (hp : PassesOwn (model X.prog X.w) X.A X.env X.xe) (hc : X.calm = true) (hi : PI X (.Name y yp) iter (iM X.K Wx fi)) (hg : PG X (.Name y yp) (gName i)) (hb : PSs X b (tS X.K Wx fb))
    (hs : ∀ x, foldedSetIterable iter X.env x = pure x) : PS X (.For (.Name y yp) iter b [] pos) (tS X.K Wx fun S => bndX S (fi S) fun I => forL I (fun x S => fb (S.set i (some x))) I.len 0 S) :=
  ps_wk (L2.ps_for hp hc hi hg hb hs) fun D σ H h => for_rd oi h
/-! ### while -/
theorem while_rd {N : Nat} {σ : L2.St} {H : Hp} {D : Ends} (h : tS X.K Wx (fun S => whlL ft fb N S) D σ H) : tWhile (tMb X.K Wx ft) (tS X.K Wx fb) D σ H := by
  obtain ⟨ρ, S, W, r, s, p⟩ := h
  let Good : Nat → L2.St → Hp → Prop := fun k σ' H' => ∃ ρ' S' W', SimW ρ' X.K W' H' ∧ RelS Wx.e ρ' X.K H' S' σ' ∧ PostS X.K Wx ρ' H' D (whlL ft fb k S' W')
  refine ⟨Good, ⟨N, ρ, S, W, s, r, p⟩, fun k σ' H' ⟨ρ', S', W', s', r', p'⟩ => ?_⟩
  cases k with
  | zero => exact p'.elim
  | succ k =>
    unfold whlL at p'
    refine tS_from (R := rB) r' s' p' fun ρ1 W1 t u H1 u1 s1 rb p1 => ?_
    have e : t = u := rb
    subst e
    cases t with
    | false =>
      rw [if_neg Bool.false_ne_true] at p1 ⊢
      exact p1 ρ1 H1 σ' .refl s1 (r'.up u1)
    | true =>
      rw [if_pos rfl] at p1 ⊢
      refine ⟨Good k, fun σ2 H2 g => ⟨k, Nat.lt_succ_self _, g⟩, ρ1, S', W1, r'.up u1, s1, ?_⟩
      cases e : fb S' W1 with
      | err x w => rw [e] at p1; exact p1.elim
      | bad => rw [e] at p1; exact p1.elim
      | ok fl w =>
        rw [e] at p1
        cases fl with
        | nx S2 => exact fun ρ2 H3 σ2 u2 s2 r2 => ⟨ρ2, S2, w, s2, r2, PostS.up u2 p1⟩
        | ct S2 => exact fun ρ2 H3 σ2 u2 s2 r2 => ⟨ρ2, S2, w, s2, r2, PostS.up u2 p1⟩
        | bk S2 => exact p1
        | rt y => exact p1
        | ex y S2 => exact p1
theorem ss_whl (hp : PassesOwn (model X.prog X.w) X.A X.env X.xe) (hd : PT X d (tMb X.K Wx ft)) (hb : PSs X b (tS X.K Wx fb)) : PS X (.While d b [] pos) (tS X.K Wx fun S => whlL ft fb whileN S) :=
  ps_wk (L2.ps_while hp hd hb) fun D σ H h => while_rd h
/-! ### while (x := e) is not None -/
theorem wlw_rd {i : Nat} {fv : Env → M MV} {N : Nat} {σ : L2.St} {H : Hp} {D : Ends} (oi : Wx.e.off i) (h : tS X.K Wx (fun S => wlwL fv i fb N S) D σ H) :
    tWhileW (wCmp (fun x y H Q => y = .non ∧ Q (.bl (!decide (x = .non))) H) (wNm (wE (tM X.K Wx fv)) i) (tC .non)) (tS X.K Wx fb) tNext D σ H := by
  obtain ⟨ρ, S, W, r, s, p⟩ := h
  let Good : Nat → L2.St → Hp → Prop := fun k σ' H' => ∃ ρ' S' W', SimW ρ' X.K W' H' ∧ RelS Wx.e ρ' X.K H' S' σ' ∧ PostS X.K Wx ρ' H' D (wlwL fv i fb k S' W')
  refine ⟨Good, ⟨N, ρ, S, W, s, r, p⟩, fun k σ' H' ⟨ρ', S', W', s', r', p'⟩ => ?_⟩
  cases k with
  | zero => exact p'.elim
  | succ k =>
    unfold wlwL at p'
    refine tS_from (R := rV X.K) r' s' p' fun ρ1 W1 v u H1 u1 s1 rv p1 => ?_
    refine ⟨rfl, _, rfl, ?_⟩
    have r3 := non_iff rv
    have r4 : RelS Wx.e ρ1 X.K H1 (S'.set i (some v)) (σ'.set i (some u)) := (r'.up u1).set i rv oi
    rw [r3]
    cases hn : isNon v with
    | true =>
      rw [hn, if_pos rfl] at p1
      exact p1 ρ1 H1 _ .refl s1 r4
    | false =>
      rw [hn, if_neg Bool.false_ne_true] at p1
      refine ⟨Good k, fun σ2 H2 g => ⟨k, Nat.lt_succ_self _, g⟩, ρ1, _, W1, r4, s1, ?_⟩
      cases e : fb (S'.set i (some v)) W1 with
      | err x w => rw [e] at p1; exact p1.elim
      | bad => rw [e] at p1; exact p1.elim
      | ok fl w =>
        rw [e] at p1
        cases fl with
        | nx S2 => exact fun ρ2 H3 σ2 u2 s2 r2 => ⟨ρ2, S2, w, s2, r2, PostS.up u2 p1⟩
        | ct S2 => exact fun ρ2 H3 σ2 u2 s2 r2 => ⟨ρ2, S2, w, s2, r2, PostS.up u2 p1⟩
        | bk S2 => exact p1
        | rt y => exact p1
        | ex y S2 => exact p1
theorem ss_wlw {i : Nat} {x : Str} {xp np cp p0 : Pos} {j : Nat} {e : Expr} {fv : Env → M MV} (hp : PassesOwn (model X.prog X.w) X.A X.env X.xe) (hN : X.N.Nodup) (hi : X.N[i]? = some x) (hx : L2.Loc X.env.scope x) (hl : X.env.scope.names.lookup x = some .local) (oi : Wx.e.off i)
    (he : PE X e (tM X.K Wx fv)) (hb : PSs X b (tS X.K Wx fb)) : PS X (.While (.Compare (.NamedExpr (.Name x xp) e np) [.IsNot] [.Constant .none j cp] p0) b [] pos) (tS X.K Wx fun S => wlwL fv i fb whileN S) :=
  ps_wk (L2.ps_whileW hp (ptw_cmp op_notN (pew_named hN hi hx (pew_of he) (.inr hl)) pe_non (by rfl)) hb pss_nil) fun D σ H h => wlw_rd oi h
end
end Mir
set_option Elab.async false
set_option linter.all false
set_option maxRecDepth 100000
set_option maxHeartbeats 4000000
/-! MRaise: raise. -/
namespace Mir
open PySem L2
section
variable {X : Cx} {Wx : WL} {e : Expr} {es : List Expr} {p0 pos pos' : Pos} {C : Str} {efs : List Str} {fs : Env → M (List MV)} {k : Nat}
theorem ss_raise (hc : X.calm = true) (tk : Takes X Wx.x) (hr : RG (k + 1) X.A) (G : GErr k X.prog X.w X.K X.mg X.base (He.ga X.K C) efs) (hg : Gl X C) (hm : X.mg C = some (.ref (He.ga X.K C))) (hdb : (C == ("__debug__" : Str)) = false)
    (he : starEach (e :: es) X.env = (false, eval e X.env) :: starEach es X.env) (hpl : (backTo pos (starEach es X.env)).any (·.1) = false) (hs : PA X (e :: es) (tMs X.K Wx fs)) :
    PS X (.Raise (some (.Call (.Name C p0) (e :: es) [] pos)) none pos') (tS X.K Wx fun S => bndX S (fs S) fun vs => if vs.length = efs.length then ret (.ex ⟨C, (efs.zip vs).reverse⟩ S) else stuck) := by
  obtain ⟨E, hnd, h9, x, qual, body, scope, fd, D, F⟩ := G
  have pm : PMk X (.Call (.Name C p0) (e :: es) [] pos) (fun σ H Q => tMs X.K Wx fs σ H fun vs H1 => vs.length = efs.length ∧ ∀ d, H1 d = none → Q (.ref (He.ga X.K C)) (some d) (upd H1 d (.xd (efs.zip vs).reverse))) := by
    intro pins s σ H Q I h
    have T := E.oex
    obtain ⟨nm, q, N, bs, bm, sn, sub, ab, col, dd, k0, k1, k2, k3, k5, hC, hbm⟩ := id T.cls
    refine wpAny_Call_Name_kw (ld_glob I hg hm ?_ hdb)
    refine PySem.W.callWith_K (h₀ := X.base) I.ok.mod.kin T.kC (thn (hs.run pos pins s σ H _ I h) fun us s1 ⟨vs, H1, I1, r1, hl, q1⟩ => ⟨I1.kIn, ?_⟩) he hpl
    show wpAny _ _ (call (.ref (He.ga X.K C)) us) _ _ _
    obtain ⟨hp, g, dr, t, os⟩ := s1
    have hsz : hp.objs.size ≤ hp.objs.size + 1 := Nat.le_succ _
    have kk : ∀ b o, hp.get? b = some o → ((hp.push (PySem.W.kdv_tup us)).push (PySem.HandSPX.excO (He.ga X.K C) hp.objs.size)).get? b = some o := fun b o e => Heap.get?_push_of_some _ (Heap.get?_push_of_some _ e)
    have hget : ((hp.push (PySem.W.kdv_tup us)).push (PySem.HandSPX.excO (He.ga X.K C) hp.objs.size)).get? (hp.objs.size + 1) = some (PySem.HandSPX.excO (He.ga X.K C) hp.objs.size) := by heap_get
    have hn : H1 (hp.objs.size + 1) = none := I1.hok.fresh hsz
    have I2 : Inv X pins σ (upd H1 (hp.objs.size + 1) (exo (hp.objs.size + 1) (He.ga X.K C) none)) ⟨(hp.push (PySem.W.kdv_tup us)).push (PySem.HandSPX.excO (He.ga X.K C) hp.objs.size), g, dr, t, os⟩ :=
      I1.laid (t' := t) (a := hp.objs.size + 1) (o := exo (hp.objs.size + 1) (He.ga X.K C) none) (h' := (hp.push (PySem.W.kdv_tup us)).push (PySem.HandSPX.excO (He.ga X.K C) hp.objs.size)) kk hsz (exo_ok hget)
    have hvl : us.length = efs.length := by rw [← Paired.length r1]; exact hl
    have hus : us.length ≤ sizeLine := by
      rw [sizeLine_eq]
      omega
    obtain ⟨ar, ds, dvs, ha, hd, FD⟩ := D.ex
    obtain ⟨oc, od, dV, kV, doc, pmm, an, cdv, ct, osl, rfl, lk, hcd, hD, _⟩ := FD.ex
    have hdv : dvs = [] := by
      have := hd ([] : List Addr) H
      unfold RelMs at this
      exact this
    subst hdv
    have hits : (([] : List Value) = [] ∧ dV = .none) ∨ ∃ (T : Addr) (o : Obj) (m : Nat), dV = .ref T ∧ ((hp.push (PySem.W.kdv_tup us)).push (PySem.HandSPX.excO (He.ga X.K C) hp.objs.size)).get? T = some o ∧ o.data = .seq ([] : List Value).toArray m := by
      rcases hD with ⟨_, e⟩ | ⟨_, T, o, its, m, e1, e2, e3, e4⟩
      · exact .inl ⟨rfl, e⟩
      · cases e4
        exact .inr ⟨T, o, m, e1, I2.kIn _ _ e2, e3⟩
    have B := bind_ok (s := ⟨(hp.push (PySem.W.kdv_tup us)).push (PySem.HandSPX.excO (He.ga X.K C) hp.objs.size), g, dr, t, os⟩) (fd := PySem.W.fnOf x qual { posonlyargs := [], args := ar, vararg := none, kwonlyargs := [], kw_defaults := [], kwarg := none, defaults := ds } body scope dV kV doc pmm an cdv ct) (dflts := ds) (us := .ref (hp.objs.size + 1) :: us) (kws := []) rfl ha hits (bindL_all hnd (by simp [hvl]))
    have r2 : Vals (V.ref (hp.objs.size + 1) :: vs) (Value.ref (hp.objs.size + 1) :: us) := .cons rfl r1
    refine wpAny_call (PySem.HandSPX.call_own PySem.F.excBase_ValueError (fun Y => PySem.HandSPX.refsVE_contains Y bm hbm) (I1.kIn _ _ hC) (PySem.W.looks_findIn I1.kIn E.init) (fun self => PySem.W.bind_fn I1.kIn self E.tI) hus
      (codeAny_mono (FnG.run F _ X.stack _ (upd H1 (hp.objs.size + 1) (exo (hp.objs.size + 1) (He.ga X.K C) none)) ⟨Value.ref (hp.objs.size + 1) :: us, []⟩ (Value.ref (hp.objs.size + 1) :: us) (V.ref (hp.objs.size + 1) :: vs)
        (fun v H2 => v = .non ∧ ∃ dx, H1 dx = none ∧ dx ≠ hp.objs.size + 1 ∧ H2 (hp.objs.size + 1) = some (exo (hp.objs.size + 1) (He.ga X.K C) (some dx)) ∧ H2 dx = some (exd dx (efs.zip vs).reverse) ∧ ∀ b, b ≠ hp.objs.size + 1 → b ≠ dx → H2 b = H1 b) (fun _ _ _ => False)
        (hr.make _ us []) (I2.env0.make _ us []) B (by simp [hvl]) r2 ⟨_, vs, rfl, hl, upd_same, fun dx H' d1 d2 d3 d4 d5 => ⟨rfl, dx, ?_, d2, d3, d4, fun b h1 h2 => ?_⟩⟩) fun r s' hq' => ?_))
    · rw [upd_ne d2] at d1; exact d1
    · rw [d5 b h1 h2, upd_ne h1]
    · cases r with
      | error er => exact tk er s' (XE.of_call I2 (fun cls d H' h => h.elim) hq')
      | ok fl =>
        cases fl with
        | ret u =>
          obtain ⟨v, H2, os2, bare2, un2, hok2, rv, ev, dx, d1, d2, d3, d4, d5⟩ := hq'
          subst ev
          obtain ⟨h2, g2, dd2, t2, os'⟩ := s'
          have eH : upd (del H2 (hp.objs.size + 1)) dx (.xd (efs.zip vs).reverse) = upd H1 dx (.xd (efs.zip vs).reverse) := by
            funext b
            by_cases hb : b = dx
            · subst hb; rw [upd_same, upd_same]
            · rw [upd_ne hb, upd_ne hb]
              by_cases hb2 : b = hp.objs.size + 1
              · subst hb2; rw [del_same, hn]
              · rw [del_ne hb2]; exact d5 b hb2 hb
          have z := mk_end (d2 := dd2) (t2 := t2) (Q := Q) (raises_own T.exC T.tyC) I1 hsz kk un2 hok2 os2 bare2 d3 d4 d1 (by rw [eH]; exact q1 dx d1)
          exact ⟨rv, z⟩
        | next => exact False.elim hq'
        | brk => exact False.elim hq'
        | cont => exact False.elim hq'
  refine ps_wk (ps_raise hc tk pm) fun D σ H ⟨ρ, S, W, r, s, p⟩ => ?_
  refine tS_from (R := rVs X.K) r s p fun ρ1 W1 vs us H1 u1 s1 r1 p1 => ?_
  split at p1
  · next hl =>
    have r1' : RelMs ρ1 X.K H1 vs us := r1
    refine ⟨by rw [← r1'.length]; exact hl, fun d hd => ?_⟩
    have U : Up ρ1 H1 ρ1 (upd H1 d (.xd (efs.zip us).reverse)) := Up.fresh0 hd
    exact p1 ρ1 _ σ _ _ U (s1.fresh0 hd) ((r.up u1).up U) ⟨rfl, d, _, rfl, upd_same, relF_zip hl (r1'.up U)⟩
  · exact p1.elim
end
end Mir
set_option Elab.async false
set_option linter.all false
set_option maxRecDepth 100000
set_option maxHeartbeats 4000000
/-! MTry: try with several clauses, named ones among them. -/
namespace Mir
open PySem L2
abbrev Sui := Addr → Value → Option Addr → TS
def putO (oi : Option Nat) (a : Addr) (σ : L2.St) : L2.St := match oi with
  | none => σ
  | some i => σ.set i (some (.ref a))
def clrO (oi : Option Nat) (σ : L2.St) : L2.St := match oi with
  | none => σ
  | some i => σ.set i none
def clrD (oi : Option Nat) (D : Ends) : Ends := { nx := fun σ H => D.nx (clrO oi σ) H, rt := D.rt, bk := fun σ H => D.bk (clrO oi σ) H, ct := fun σ H => D.ct (clrO oi σ) H }
/-- what the clauses wish of an exception of the body -/
def wCl (K : PySem.W.Frag) (Wo : WX) (D : Ends) : List (Value × Option Nat × Sui) → WX
  | [] => Wo
  | q :: r => fun cls d σ H => ∃ b, PySem.W.exmOne K cls q.1 = some b ∧ (b = true → ∀ a, H a = none → q.2.2 a cls d (clrD q.2.1 D) (putO q.2.1 a σ) H) ∧ (b = false → wCl K Wo D r cls d σ H)
/-- the name of a clause: a local's slot, or none -/
inductive NamO (X : Cx) : Option Str → Option Nat → Prop
  | no : NamO X none none
  | yes {m : Str} {i : Nat} (hi : X.N[i]? = some m) (hl : X.env.kindOf m = some .local) : NamO X (some m) (some i)
inductive HdK (X : Cx) : List ExceptHandler → List (Value × Option Nat × Sui) → Prop
  | nil : HdK X [] []
  | cons {x : Str} {c : Value} {on : Option Str} {oi : Option Nat} {ts : Sui} {st : Stmt} {rest : List Stmt} {np hp : Pos} {hds : List ExceptHandler} {l : List (Value × Option Nat × Sui)} (hc : Names X x c) (ho : NamO X on oi)
      (hsu : ∀ (a : Addr) (oe : Obj) (cls : Value) (d : Option Addr) (pn : List (Addr × Obj)), Zc cls d oe → (∃ vs, oe.data = .fields vs) → PSs (X.suite a ((a, oe) :: pn)) (st :: rest) (ts a cls d)) (r : HdK X hds l) :
      HdK X (.ExceptHandler (some (.Name x np)) on (st :: rest) hp :: hds) ((c, oi, ts) :: l)
section
variable {X : Cx} {body : List Stmt} {h1 : ExceptHandler} {hds : List ExceptHandler} {l : List (Value × Option Nat × Sui)} {pos : Pos} {tb : WX → TS} {Wo : WX}
theorem ps_tryC (stk : X.stack = X.env :: X.outer) (fra : X.env.frame = some X.env.locals) (hN : X.N.Nodup) (tk : Takes X Wo)
    (hb : ∀ (W : WX) (pn : List (Addr × Obj)) (xe : Value → Shared → Prop), Takes (X.tr pn xe) W → PassesOwn (model X.prog X.w) X.A X.env xe → PSs (X.tr pn xe) body (tb W))
    (hh : HdK X (h1 :: hds) l) : PS X (.Try body (h1 :: hds) [] [] pos) (fun D σ H => tb (wCl X.K Wo D l) D σ H) := by
  constructor
  intro pins s σ H D I h
  have ok := I.ok
  have hfr : X.A.frames = some (X.env :: X.outer) := ok.frames.trans (by rw [stk])
  refine wpAny_Try_except ?_
  let xe' : Value → Shared → Prop := fun e s₁ => wpAny (model X.prog X.w) X.A (noteFrame e X.env) (fun _ s₂ => wpAny (model X.prog X.w) X.A (setFlight e none) (fun _ s₃ =>
    wpAny (model X.prog X.w) X.A (handleBy e X.env (h1 :: hds)) (SP X pins D) X.xe s₃) X.xe s₂) X.xe s₁
  have B0 := hb (wCl X.K Wo D l) (X.pn ++ pins) xe' (fun u s' xx => ?c) PassesOwn.looking
  case c =>
    obtain ⟨a, B, sI, ps', σ', H', cls, d, rfl, J', nb, up, sky, na, os, ag, w⟩ := xx
    have J : Inv X pins σ' H' sI := J'.ofTry ok
    have sky2 : Sky B (X.env :: X.outer) a (Zc cls d) X.env.locals s'.heap := by
      rw [← stk]
      exact sky
    show wpAny (model X.prog X.w) X.A (noteFrame (.ref a) X.env) _ _ _
    refine Sky.land Zc.steady hfr fra sky2 fun g3 fl3 up3 => ?_
    have J3 : Inv X pins σ' H' { s' with heap := g3 } := J.landed nb fl3.1 (up.trans up3) os ag
    obtain ⟨oe3, vs3, he3, hz3, hd3⟩ := fl3.there
    have hmem : a ∉ frs (X.env :: X.outer) := fun hm => by
      obtain ⟨_, o', e', hnf⟩ := fl3.2.2.1.mem hm
      cases he3.symm.trans e'
      exact hnf _ hd3
    have nL : a ≠ X.env.locals := fun z => hmem (List.mem_filterMap.mpr ⟨X.env, List.mem_cons_self, fra.trans (by rw [z])⟩)
    have nF : a ∉ X.fs := fun hm => by
      obtain ⟨e, he, q⟩ := List.mem_filterMap.mp hm
      exact hmem (List.mem_filterMap.mpr ⟨e, List.mem_cons_of_mem _ he, q⟩)
    have S3 := J3.suite he3 hd3 na nL nF
    have go : ∀ {hs2 : List ExceptHandler} {l2 : List (Value × Option Nat × Sui)}, HdK X hs2 l2 → wCl X.K Wo D l2 cls d σ' H' →
        wpAny (model X.prog X.w) X.A (handleBy (.ref a) X.env hs2) (SP X pins D) X.xe { s' with heap := g3 } := by
      intro hs2 l2 hk
      induction hk with
      | nil =>
        intro w2
        refine wpAny_handleBy_nil ?_
        obtain ⟨_, _, _, oe, vs, T, oT, ts', he, _, hd, hv1, _⟩ := id fl3
        unfold PySem.passOn
        refine wpAny_bind (wpAny_field he hd hv1 ?_)
        rw [if_neg (show ¬ ((Value.ref T == Value.none) = true) from by simp)]
        have out : wpAny (model X.prog X.w) X.A (setFlight (.ref a) X.env.frame) (fun _ s4 => wpAny (model X.prog X.w) X.A (throw (.ref a) : Sem Flow) (SP X pins D) X.xe s4) X.xe { s' with heap := g3 } := by
          rw [fra]
          refine HandSPX.setFlight_upZ fl3 fun g4 hh4 up4 => wpAny_throw (tk _ _ ?_)
          refine ⟨a, B, sI, pins, σ', H', cls, d, rfl, J, nb, (up.trans up3).trans up4, .inr (.inr ?_), na, os, ag, w2⟩
          rw [stk]
          exact hh4
        first
          | exact wpAny_bind (wpAny_pure (wpAny_bind out))
          | exact wpAny_bind out
      | @cons x c on oi ts st rest np hp hs3 l3 hc ho hsu r ih =>
        intro w2
        obtain ⟨b, hb1, hyes, hno⟩ := w2
        refine wpAny_handleBy_cons (codeAny_handlers_test ?_) (by intro q; cases q)
        have LT : PySem.W.Looks (model X.prog X.w) g3 (typeOf (.ref a)) cls := fun A Q E s k q => wpAny_typeOf_ref (k _ _ he3) (hz3.1 ▸ q)
        have LM := PySem.W.exm_one (M := model X.prog X.w) J3.kIn LT hb1
        have test : ∀ {Q : Value → Shared → Prop} {E : Value → Shared → Prop}, Q c { s' with heap := g3 } → wpAny (model X.prog X.w) (X.A.mark (some (.ref a))) (eval (.Name x np) X.env) Q E { s' with heap := g3 } := by
          intro Q E q
          obtain ⟨hg, hdbg, hm | ⟨hm, hv, hnn⟩⟩ := hc
          · exact ld_glob (X := X.suite a ((a, oe3) :: (X.pn ++ pins))) S3 hg hm q hdbg
          · exact ld_blt (X := X.suite a ((a, oe3) :: (X.pn ++ pins))) S3 hg hm hv q hnn hdbg
        refine test (LM.here ?_)
        cases b with
        | false =>
          show wpAny _ X.A (handleBy (.ref a) X.env hs3) _ _ _
          exact ih (hno rfl)
        | true =>
          have w3 := hyes rfl a na
          cases ho with
          | no =>
            refine codeAny_handlers_suite ?_
            refine HandSPX.lands_againZ fl3 fun g4 fl4 up4 => ?_
            have J4 : Inv X pins σ' H' { s' with heap := g4 } := J.landed nb fl4.1 ((up.trans up3).trans up4) os ag
            obtain ⟨oe4, vs4, he4, hz4, hd4⟩ := fl4.there
            have S4 := J4.suite he4 hd4 na nL nF
            refine wpAny_mono ((hsu a oe4 cls d (X.pn ++ pins) hz4 ⟨_, hd4⟩).run [] _ _ H' _ S4 w3) (fun f s6 hsp => ?_) (fun _ _ z => False.elim z)
            cases f with
            | ret u =>
              obtain ⟨v6, σ6, H6, S6, r6, q6⟩ := hsp
              exact ⟨_, _, _, S6.unsuite ok, r6, q6⟩
            | _ =>
              obtain ⟨σ6, H6, S6, q6⟩ := hsp
              exact ⟨_, _, S6.unsuite ok, q6⟩
          | @yes m i hi hl =>
            refine codeAny_handlers_suite_as ?_
            refine HandSPX.lands_againZ fl3 fun g4 fl4 up4 => ?_
            have J4 : Inv X pins σ' H' { s' with heap := g4 } := J.landed nb fl4.1 ((up.trans up3).trans up4) os ag
            obtain ⟨oe4, vs4, he4, hz4, hd4⟩ := fl4.there
            have S4 := J4.suite he4 hd4 na nL nF
            refine store_ok (X := X.suite a ((a, oe4) :: (X.pn ++ pins))) (v := .ref a) S4 hN hi (.inl hl) rfl (fun s5 S5 => ?_) (.inr hl)
            refine wpAny_mono ((hsu a oe4 cls d (X.pn ++ pins) hz4 ⟨_, hd4⟩).run [] s5 _ H' _ S5 w3) (fun f s6 hsp => ?_) (fun _ _ z => False.elim z)
            have away : ∀ {σ6 : L2.St} {H6 : Hp} {Q : Shared → Prop}, Inv (X.suite a ((a, oe4) :: (X.pn ++ pins))) [] σ6 H6 s6 → (∀ s7, Inv X pins (σ6.set i none) H6 s7 → Q s7) →
                wpAny (model X.prog X.w) X.A (do bindName X.env m .none; unbindBehindTheSuite X.env m hp) (fun _ s7 => Q s7) X.xe s6 := fun {σ6 H6 Q} S6 hq => gone_ok (S6.unsuite ok) hN hi hl hq
            cases f with
            | ret u =>
              obtain ⟨v6, σ6, H6, S6, r6, q6⟩ := hsp
              exact away S6 fun s7 J7 => ⟨_, _, _, J7, r6, q6⟩
            | _ =>
              obtain ⟨σ6, H6, S6, q6⟩ := hsp
              exact away S6 fun s7 J7 => ⟨_, _, J7, q6⟩
    exact go hh w
  refine wpAny_mono (B0.run [] s σ H D (I.toTry xe') h) (fun f s1 hsp => ?_) (fun e s1 he => he)
  cases f with
  | next =>
    obtain ⟨σ', H', J', q⟩ := hsp
    exact wpAny_execs_nil ⟨σ', H', J'.ofTry ok, q⟩
  | ret u =>
    obtain ⟨v, σ', H', J', r, q⟩ := hsp
    exact ⟨v, σ', H', J'.ofTry ok, r, q⟩
  | _ =>
    obtain ⟨σ', H', J', q⟩ := hsp
    exact ⟨σ', H', J'.ofTry ok, q⟩
end

/-! ### as the mirror has it -/
def lkO (K : PySem.W.Frag) (oi : Option Nat) (a : Addr) (ex : Exn) (dd : Addr) : Lk := match oi with
  | none => none
  | some i => some (i, a, ex, .ref (He.ga K ex.cls), some dd)
def cuO (oi : Option Nat) (ex : Exn) : Option Exn := match oi with
  | none => none
  | some _ => some ex
def suiL (c : Calls) (oi : Option Nat) (b : List Sx) (e : Exn) (S : Env) : M Fl := suiM oi (match oi with
  | none => exeL c none b S
  | some i => if i < S.length then exeL c (some e) b (S.set i none) else stuck)
section
variable {T : Prog} {n : Nat} {X : Cx} {Wx : WL} {c : Calls}
inductive HdM (T : Prog) (c : Calls) (X : Cx) : List ExceptHandler → List (Str × Option Nat) → List (List Sx) → Prop
  | nil : HdM T c X [] [] []
  | cons {C : Str} {on : Option Str} {oi : Option Nat} {st : Stmt} {rest : List Stmt} {np hp : Pos} {hds : List ExceptHandler} {b : List Sx} {cs : List (Str × Option Nat)} {bs : List (List Sx)}
      (hC : T.errs.contains C = true) (hg : Gl X C) (hdb : (C == ("__debug__" : Str)) = false) (ho : NamO X on oi)
      (hsu : ∀ (a : Addr) (oe : Obj) (d : Addr) (pn : List (Addr × Obj)) (ex : Exn), Zc (.ref (He.ga X.K ex.cls)) (some d) oe → (∃ vs, oe.data = .fields vs) → PSs (X.suite a ((a, oe) :: pn)) (st :: rest) (tS X.K ⟨fun _ _ _ _ => False, lkO X.K oi a ex d⟩ (exeL c (cuO oi ex) b)))
      (r : HdM T c X hds cs bs) : HdM T c X (.ExceptHandler (some (.Name C np)) on (st :: rest) hp :: hds) ((C, oi) :: cs) (b :: bs)
theorem relS_in {L : Lk} {ρ : List Addr} {K : PySem.W.Frag} {H : Hp} {S : Env} {σ : L2.St} {e : Exn} {dd a : Addr} {i : Nat} (r : RelS L ρ K H S σ) (hi : i < S.length) (x : ExnRel ρ K H e (.ref (He.ga K e.cls)) (some dd)) :
    RelS (some (i, a, e, .ref (He.ga K e.cls), some dd)) ρ K H (S.set i none) (σ.set i (some (.ref a))) := by
  refine ⟨by simp [r.1], fun j v hj => ?_, ?_, x⟩
  · by_cases h : i = j
    · subst h
      rw [List.getElem?_set_self hi] at hj
      cases hj
    · rw [List.getElem?_set_ne h] at hj ⊢
      exact r.2.1 j v hj
  · rw [List.getElem?_set_self (r.1 ▸ hi)]
theorem relS_out {L : Lk} {ρ : List Addr} {K : PySem.W.Frag} {H : Hp} {S : Env} {σ : L2.St} (oi : Option Nat) (r : RelS L ρ K H S σ) : RelS none ρ K H (Fl.clr oi S) (clrO oi σ) := by
  cases oi with
  | none => exact r.none
  | some i =>
    refine ⟨by simp [Fl.clr, clrO, r.1], fun j v hj => ?_, True.intro⟩
    show ∃ u, (σ.set i none)[j]? = some (some u) ∧ _
    have hj' : (S.set i none)[j]? = some (some v) := hj
    by_cases h : i = j
    · subst h
      by_cases hl : i < S.length
      · rw [List.getElem?_set_self hl] at hj'; cases hj'
      · rw [List.getElem?_eq_none (by simpa using hl)] at hj'; cases hj'
    · rw [List.getElem?_set_ne h] at hj' ⊢
      exact r.2.1 j v hj'
/-- the suites, told -/
def suiT (K : PySem.W.Frag) (c : Calls) (oi : Option Nat) (b : List Sx) : Sui := fun a cls d D σ H => ∃ (ex : Exn) (dd : Addr), cls = .ref (He.ga K ex.cls) ∧ d = some dd ∧ tS K ⟨fun _ _ _ _ => False, lkO K oi a ex dd⟩ (exeL c (cuO oi ex) b) D σ H
def clL (K : PySem.W.Frag) (c : Calls) : List (Str × Option Nat) → List (List Sx) → List (Value × Option Nat × Sui)
  | q :: cs, b :: bs => (.ref (He.ga K q.1), q.2, suiT K c q.2 b) :: clL K c cs bs
  | _, _ => []
theorem HdM.hdK (hm : ∀ C, T.errs.contains C = true → X.mg C = some (.ref (He.ga X.K C))) {hds : List ExceptHandler} {cs : List (Str × Option Nat)} {bs : List (List Sx)} (h : HdM T c X hds cs bs) : HdK X hds (clL X.K c cs bs) := by
  induction h with
  | nil => exact .nil
  | @cons C on oi st rest np hp hds b cs bs hC hg hdb ho hsu r ih =>
    refine .cons ⟨hg, hdb, .inl (hm C hC)⟩ ho (fun a oe cls d pn hz hf => ⟨fun pins s σ H D I h => ?_⟩) ih
    obtain ⟨ex, dd, rfl, rfl, h⟩ := h
    exact (hsu a oe dd pn ex hz hf).run pins s σ H D I h
theorem exeH_cons (c : Calls) (C : Str) (oi : Option Nat) (cs : List (Str × Option Nat)) (b : List Sx) (bs : List (List Sx)) (e : Exn) (S : Env) :
    exeH c ((C, oi) :: cs) (b :: bs) e S = if c.exf e.cls ≠ [] ∧ c.err C = true then (if c.sub e.cls C = true then suiL c oi b e S else exeH c cs bs e S) else stuck := by
  cases oi <;> (conv => lhs; unfold exeH) <;> rfl
theorem exf_of {C : Str} (h : (T.exf.lookup C).getD [] ≠ []) : ∃ fs, T.exf.lookup C = some fs ∧ fs ≠ [] := by
  cases e : T.exf.lookup C with
  | none => rw [e] at h; exact absurd rfl h
  | some fs => rw [e] at h; exact ⟨fs, rfl, h⟩
theorem wCl_of (tx : Txt T n X.prog X.w X.K X.mg X.base) (h0 : Wx.e = none) {f : Fid → List MV → List (Str × MV) → M MV} {D : Ends} : ∀ {hds : List ExceptHandler} {cs : List (Str × Option Nat)} {bs : List (List Sx)}, HdM T (T.calls f) X hds cs bs →
    ∀ {ρ : List Addr} {H : Hp} {S : Env} {σ : L2.St} {W : Wd} {e : Exn} {cls : Value} {d : Option Addr}, RelS none ρ X.K H S σ → SimW ρ X.K W H → ExnRel ρ X.K H e cls d → PostS X.K Wx ρ H D (exeH (T.calls f) cs bs e S W) →
      wCl X.K Wx.x D (clL X.K (T.calls f) cs bs) cls d σ H := by
  intro hds cs bs hh
  induction hh with
  | nil =>
    intro ρ H S σ W e cls d r s x p
    have p' : PostS X.K Wx ρ H D (.ok (.ex e S) W) := by
      have z := p
      unfold exeH at z
      exact z
    exact p' ρ H σ cls d .refl s (h0 ▸ r) x
  | @cons C on oi st rest np hp hds b cs bs hC hg hdb ho hsu hr ih =>
    intro ρ H S σ W e cls d r s x p
    rw [exeH_cons] at p
    split at p
    · next hc =>
      obtain ⟨fs, hf, hne⟩ := exf_of (T := T) hc.1
      obtain ⟨rfl, dd, gs, rfl, hd, rF⟩ := id x
      refine ⟨_, (tx.sub e.cls fs C hf hne hC).1, fun hb a na => ?_, fun hb => ?_⟩
      · have hsub : (T.calls f).sub e.cls C = true := hb
        rw [if_pos hsub] at p
        refine ⟨e, dd, rfl, rfl, ?_⟩
        show tS X.K ⟨fun _ _ _ _ => False, lkO X.K oi a e dd⟩ (exeL (T.calls f) (cuO oi e) b) (clrD oi D) (putO oi a σ) H
        have fin : ∀ (m : M Fl), PostS X.K Wx ρ H D (suiM oi m W) → PostS X.K ⟨fun _ _ _ _ => False, lkO X.K oi a e dd⟩ ρ H (clrD oi D) (m W) := by
          intro m pm
          unfold suiM at pm
          cases em : m W with
          | err z w => rw [em] at pm; exact pm.elim
          | bad => rw [em] at pm; exact pm.elim
          | ok fl w =>
            rw [em] at pm
            cases fl with
            | nx S2 => exact fun ρ2 H2 σ2 u2 s2 r2 => pm ρ2 H2 _ u2 s2 (h0 ▸ relS_out oi r2)
            | bk S2 => exact fun ρ2 H2 σ2 u2 s2 r2 => pm ρ2 H2 _ u2 s2 (h0 ▸ relS_out oi r2)
            | ct S2 => exact fun ρ2 H2 σ2 u2 s2 r2 => pm ρ2 H2 _ u2 s2 (h0 ▸ relS_out oi r2)
            | rt v => exact pm
            | ex z S2 => exact pm.elim
        have p2 := fin _ p
        cases oi with
        | none => exact ⟨ρ, S, W, r, s, p2⟩
        | some i =>
          dsimp only at p2
          split at p2
          · next hi => exact ⟨ρ, S.set i none, W, relS_in r hi x, s, p2⟩
          · exact p2.elim
      · have hsub : (T.calls f).sub e.cls C = false := hb
        rw [if_neg (by rw [hsub]; exact Bool.false_ne_true)] at p
        exact ih r s x p
    · exact p.elim
theorem ss_try {f : Fid → List MV → List (Str × MV) → M MV} {body : List Stmt} {fb : Env → M Fl} {h1 : ExceptHandler} {hds : List ExceptHandler} {cs : List (Str × Option Nat)} {bs : List (List Sx)} {pos : Pos}
    (stk : X.stack = X.env :: X.outer) (fra : X.env.frame = some X.env.locals) (hN : X.N.Nodup) (tk : Takes X Wx.x) (h0 : Wx.e = none) (tx : Txt T n X.prog X.w X.K X.mg X.base)
    (hb : ∀ (W : WX) (pn : List (Addr × Obj)) (xe : Value → Shared → Prop), Takes (X.tr pn xe) W → PassesOwn (model X.prog X.w) X.A X.env xe → PSs (X.tr pn xe) body (tS X.K ⟨W, none⟩ fb))
    (hh : HdM T (T.calls f) X (h1 :: hds) cs bs) : PS X (.Try body (h1 :: hds) [] [] pos) (tS X.K Wx fun S w => match fb S w with
      | .ok (.ex e S') w' => exeH (T.calls f) cs bs e S' w'
      | r => r) := by
  refine ps_wk (ps_tryC (tb := fun W => tS X.K ⟨W, none⟩ fb) stk fra hN tk hb (hh.hdK fun C hC => (tx.err C hC).1)) fun D σ H ⟨ρ, S, W, r, s, p⟩ => ?_
  refine ⟨ρ, S, W, r.none, s, ?_⟩
  dsimp only at p
  have lift : ∀ {ρ2 : List Addr} {H2 : Hp} {S2 : Env} {σ2 : L2.St}, RelS none ρ2 X.K H2 S2 σ2 → RelS Wx.e ρ2 X.K H2 S2 σ2 := fun q => h0 ▸ q
  cases e : fb S W with
  | err z w => rw [e] at p; exact p.elim
  | bad => rw [e] at p; exact p.elim
  | ok fl w =>
    rw [e] at p
    cases fl with
    | nx S2 => exact fun ρ2 H2 σ2 u2 s2 r2 => p ρ2 H2 σ2 u2 s2 (lift r2)
    | bk S2 => exact fun ρ2 H2 σ2 u2 s2 r2 => p ρ2 H2 σ2 u2 s2 (lift r2)
    | ct S2 => exact fun ρ2 H2 σ2 u2 s2 r2 => p ρ2 H2 σ2 u2 s2 (lift r2)
    | rt v => exact p
    | ex z S2 => exact fun ρ2 H2 σ2 cls d u2 s2 r2 x2 => wCl_of tx h0 hh r2 s2 x2 (PostS.up u2 p)
end
end Mir
set_option Elab.async false
set_option linter.all false
set_option maxRecDepth 100000
set_option maxHeartbeats 4000000
/-! MSui: the exception that an except suite holds. -/
namespace Mir
open PySem L2
section
variable {T : Prog} {n : Nat} {X : Cx} {a dd : Addr} {oe : Obj} {pn : List (Addr × Obj)} {ex : Exn} {i : Nat} {m f C : Str} {p p0 p1 p2 pos : Pos} {g : Fid → List MV → List (Str × MV) → M MV}
abbrev sLk (K : PySem.W.Frag) (i : Nat) (a : Addr) (ex : Exn) (dd : Addr) : WL := ⟨fun _ _ _ _ => False, some (i, a, ex, .ref (He.ga K ex.cls), some dd)⟩
theorem me_exf (tx : Txt T n X.prog X.w X.K X.mg X.base) (hz : Zc (.ref (He.ga X.K ex.cls)) (some dd) oe) (hf : ∃ vs, oe.data = .fields vs) (hv : PE (X.suite a ((a, oe) :: pn)) (.Name m p0) (tVar i))
    (hb : attributeBase (.Name m p0) f X.env (eval (.Name m p0) X.env) = eval (.Name m p0) X.env) :
    PE (X.suite a ((a, oe) :: pn)) (.Attribute (.Name m p0) f pos) (tM X.K (sLk X.K i a ex dd) (den (T.calls g) (some ex) (.exf f))) := by
  constructor
  intro pins s σ H Q I h
  obtain ⟨ρ, S, W, r, sm, p⟩ := id h
  unfold den at p
  dsimp only at p
  split at p
  · next hc =>
    have hne : (T.exf.lookup ex.cls).getD [] ≠ [] := fun z => by
      have hc' : ((T.exf.lookup ex.cls).getD []).contains f = true := hc
      rw [z] at hc'
      cases hc'
    obtain ⟨fs, hfs, hn0⟩ := exf_of (T := T) hne
    obtain ⟨_, E, _⟩ := tx.exn ex.cls fs hfs hn0
    have hin : f ∈ fs := by
      have hc' : ((T.exf.lookup ex.cls).getD []).contains f = true := hc
      rw [hfs] at hc'
      simpa using hc'
    refine (pe_xf (n := f) E.xf (E.no f hin) hz hf hv hb).run pins s σ H Q I ?_
    obtain ⟨es, hx⟩ := r.2.2
    obtain ⟨_, d2, gs, hd2, hgs, rF⟩ := hx
    cases hd2
    cases el : ex.fs.lookup f with
    | none => rw [el] at p; exact p.elim
    | some v =>
      rw [el] at p
      have key : ∀ {as : List (Str × MV)} {bs : List (Str × V)}, RelF ρ X.K H as bs → as.lookup f = some v → ∃ u, bs.lookup f = some u ∧ RelM ρ X.K H v u := by
        intro as
        induction as with
        | nil => intro bs _ z; cases z
        | cons q as ih =>
          intro bs rf z
          obtain ⟨k, y⟩ := q
          cases bs with
          | nil => have := rf.1; simp at this
          | cons q2 bs =>
            obtain ⟨k2, y2⟩ := q2
            obtain ⟨e1, e2⟩ := rf
            simp only [List.map_cons, List.cons.injEq] at e1 e2
            obtain ⟨rfl, e1⟩ := e1
            obtain ⟨u', t, ez, r1, r2⟩ := e2.uncons
            cases ez
            simp only [List.lookup_cons] at z ⊢
            split at z
            · cases z; exact ⟨_, rfl, r1⟩
            · exact ih ⟨e1, r2⟩ z
      obtain ⟨u, hu, ru⟩ := key rF el
      exact ⟨.ref a, es, rfl, rfl, dd, gs, u, rfl, hgs, hu, p ρ H u .refl sm ru⟩
  · exact p.elim
/-- isinstance(e, C) -/
theorem me_exi (tx : Txt T n X.prog X.w X.K X.mg X.base) (hz : Zc (.ref (He.ga X.K ex.cls)) (some dd) oe) (hf : ∃ vs, oe.data = .fields vs) (hv : PE (X.suite a ((a, oe) :: pn)) (.Name m p0) (tVar i))
    (hg : Gl X "isinstance") (hm : X.mg "isinstance" = none) (hC : Gl X C) (hdb : (C == ("__debug__" : Str)) = false) :
    PE (X.suite a ((a, oe) :: pn)) (.Call (.Name "isinstance" p1) [.Name m p0, .Name C p2] [] pos) (tM X.K (sLk X.K i a ex dd) (den (T.calls g) (some ex) (.exi C))) := by
  constructor
  intro pins s σ H Q I h
  obtain ⟨ρ, S, W, r, sm, p⟩ := id h
  unfold den at p
  dsimp only at p
  split at p
  · next hc =>
    obtain ⟨hne, hCe⟩ := hc
    obtain ⟨fs, hfs, hn0⟩ := exf_of (T := T) (C := ex.cls) hne
    obtain ⟨_, E, _⟩ := tx.exn ex.cls fs hfs hn0
    have hCe' : T.errs.contains C = true := hCe
    have hcn : PE (X.suite a ((a, oe) :: pn)) (.Name C p2) (tC (.ref (He.ga X.K C))) := ⟨fun pins s σ H Q I q => ld_glob I hC (tx.err C hCe').1 ⟨.ref (He.ga X.K C), H, I, rfl, q⟩ hdb⟩
    obtain ⟨es, hx⟩ := r.2.2
    obtain ⟨_, d2, gs, hd2, hgs, rF⟩ := hx
    cases hd2
    have hcall : CallR (X.suite a ((a, oe) :: pn)) (.builtin "isinstance") (fun xs H Q => xs = [.ref a, .ref (He.ga X.K C)] ∧ H dd = some (.xd gs) ∧ Q (.bl (ex.cls == C || T.subs.contains (ex.cls, C))) H) := by
      intro pins s σ H xs us Q I rv h
      obtain ⟨rfl, hd, q⟩ := h
      cases rv with
      | cons rx rr =>
        cases rr with
        | cons rt rr =>
          cases rr
          cases rx
          cases rt
          obtain ⟨hget, _⟩ := I.pin (a, oe) (List.mem_append.mpr (.inl List.mem_cons_self))
          obtain ⟨vs, hv⟩ := hf
          have ho : ObjOk X.prog X.w H s.heap dd (.xd gs) := I.hok dd _ hd
          obtain ⟨mA, hns, hr⟩ := ho
          obtain ⟨od, hod, hl⟩ := lookIn_ns hns
          have J : PySem.W.InstAt s.heap a oe (He.ga X.K ex.cls) (some od) := ⟨hget, hz.1, by unfold PySem.W.notCls; rw [hv] <;> rfl, by rw [hz.2]; exact hod⟩
          have hcl : (PySem.W.clsIn X.K (He.ga X.K ex.cls)).isSome = true := by
            obtain ⟨cd, hcd, _⟩ := PySem.W.any_some E.isx.hd
            rw [hcd]
            rfl
          exact PySem.W.kia_one (PySem.W.kitx_exc hcl E.isx.hg E.isx.hk E.isx.hs E.isx.ha E.isx.hn E.isx.ht E.isx.hm) I.kIn J (tx.sub ex.cls fs C hfs hn0 hCe').2 (fun z => nomatch z) fun tk => ⟨.bl _, H, I.kept (t' := tk) fun _ _ z => z, rfl, q⟩
    refine (pe_callB hcall hg hm (by decide +kernel) (pa_cons hv (pa_cons hcn pa_nil rfl) rfl) (by decide) (by decide) rfl rfl).run pins s σ H Q I ?_
    exact ⟨.ref a, es, rfl, hgs, p ρ H _ .refl sm (by show RelM _ _ _ _ _; unfold RelM; rfl)⟩
  · exact p.elim
end
end Mir
set_option Elab.async false
set_option linter.all false
set_option maxRecDepth 100000
set_option maxHeartbeats 4000000
/-! MFmt: f-strings: {x}, {n:04d}. -/
namespace Mir
open PySem L2 Builtin Builtin.Str Builtin.Int Builtin.Float
def sp04 : Str := Str.ofString "04d"
def f04 : FormatSpec := { fill := 48, align := 61, width := some 4, type := some 100 }
theorem p04 (name : String) : parseFormatSpec sp04.cps.toList name 62 = .ok f04 := by rfl
theorem s04a : (sp04.length == 0) = false := by decide +kernel
theorem s04b : ((sp04.cps.toList.drop 1).any (fun x => decide (x ≥ 128)) || (decide (sp04.cps.getD 0 0 ≥ 128) && !([60, 62, 61, 94] : List Nat).contains (sp04.cps.getD 1 0))) = false := by decide +kernel
theorem gives_04 (a : Int) (t u : Tok) (h : a.natAbs.log2 < 1920) (hz : (PyProof.Rows.intSpecText f04 a).length ≤ sizeLine) : Gives (Builtin.«int.__format__» ⟨[.int a t, .str sp04 u], []⟩) (.str (PyProof.Rows.intSpecText f04 a)) := by
  intro prog w A R s hq
  unfold Builtin.«int.__format__»
  have n1 : (Value.str sp04 u == Value.none) = false := rfl
  simp only [n1, s04a, s04b, selfAndOne, noKeywords, intOfSelf, asStr?, asInt?, bind_assoc, pure_bind, List.isEmpty_nil, Bool.false_eq_true, if_true, if_false]
  refine wpAny_bind (wpAny_typeNameOf (T := "str") (typeIs_str _ _ _) (by decide) fun nm => wpAny_bind (PyProof.Rows.wpAny_typeNameOfCut_int ?_))
  rw [p04]
  have k1 : f04.type = some 100 := rfl
  have k2 : f04.precision = none := rfl
  have k3 : f04.noNeg0 = false := rfl
  have k4 : f04.width = some 4 := rfl
  have k5 : f04.alt = false := rfl
  have k6 : f04.grouping = none := rfl
  generalize f04 = f at *
  dsimp only
  simp only [k1, Option.getD_some]
  rw [if_pos (by decide +kernel)]
  show wpAny _ A.in1 (if _ then _ else _) _ _ _
  rw [if_neg (by simp [k2])]
  show wpAny _ A.in1 (if _ then _ else _) _ _ _
  rw [if_neg (by simp [k3])]
  show wpAny _ A.in1 (if _ then _ else _) _ _ _
  rw [if_neg (by decide)]
  have hd := overDigitLimit_small h
  show wpAny (model prog w) A.in1 (overDigitLimit? a >>= _) _ _ s
  refine wpAny_bind ?_
  rw [hd]
  refine wpAny_pure ?_
  show wpAny _ A.in1 (if _ then _ else _) _ _ _
  rw [if_neg (by simp [k4])]
  have e : Gives (retStr (PyProof.Rows.intSpecText f a)) (.str (PyProof.Rows.intSpecText f a)) := .of_eq rfl
  show wpAny _ A.in1 (retStr _) _ _ _
  simp only [k5, Bool.false_eq_true, if_false]
  have e2 := e prog w A R s hq
  conv => arg 3; arg 1; whnf
  simp only [PyProof.Rows.intSpecText, PyProof.Rows.intField', k5, k6] at e2 ⊢
  exact e2
theorem len04 {i : Int} (h0 : 0 ≤ i) : (Nat.toDigits 10 i.natAbs).length = (Str.ofString (toString i)).length := by
  obtain ⟨m, rfl⟩ := Int.eq_ofNat_of_zero_le h0
  rw [show (toString ((m : Nat) : Int)) = toString (Int.ofNat m) from rfl, PyProof.Rows.text_ofNat m]
  simp [Str.length]
theorem text04 {i : Int} (h0 : 0 ≤ i) : PyProof.Rows.intSpecText f04 i = zero4 (toString i) := by
  rw [PyProof.Rows.intSpecText_zero (f := f04) rfl rfl rfl rfl h0, len04 h0]
  unfold zero4
  refine Str.ext' ?_
  rw [Str.cps_append]
  simp [f04]
theorem log04 {i : Int} (h1 : i.natAbs < 10000) : i.natAbs.log2 < 1920 := by
  by_cases h0 : i.natAbs = 0
  · rw [h0]; decide
  · exact Nat.lt_of_lt_of_le ((Nat.log2_lt h0).mpr (show i.natAbs < 2 ^ 14 by omega)) (by decide)
theorem size04 {i : Int} (h0 : 0 ≤ i) (h1 : i < 10000) : (zero4 (toString i)).length ≤ 4 := by
  have h := PyProof.Rows.toString_length_le h0 (k := 4) (by decide) (by omega)
  have e : (zero4 (toString i)).length = (4 - (Str.ofString (toString i)).length) + (Str.ofString (toString i)).length := by
    unfold zero4
    simp [Str.length]
  omega
section
variable {X : Cx} {Wx : WL} {e : Expr} {te : TE} {fe : Env → M MV} {pos p2 p3 : Pos} {j : Nat}
def tF04 (te : TE) : TE := fun σ H Q => te σ H fun x H1 => ∃ i : Int, x = .int i ∧ 0 ≤ i ∧ i < 10000 ∧ Q (.str (zero4 (toString i))) H1
theorem pe_fmt04 {k : Nat} (he : PE X e te) : PE X (.FormattedValue e (-1) (some (.JoinedStr [.Constant (.str "04d") k p2] p3)) pos) (tF04 te) := by
  refine ⟨fun pins s σ H Q I h => ?_⟩
  refine wpAny_FormattedValue_spec (thn (he.run pins s σ H _ I h) fun v s1 hv => ?_)
  obtain ⟨x, H1, I1, r1, i, rfl, h0, h1, q⟩ := hv
  obtain ⟨t, rfl⟩ := r1
  have sp : PE X (.JoinedStr [.Constant (.str "04d") k p2] p3) (tC (.str "04d")) := pe_joined1 pe_str
  refine thn (sp.run pins s1 σ H1 (fun y H2 => y = .str "04d" ∧ H2 = H1) I1 ⟨rfl, rfl⟩) fun r s2 hr => ?_
  obtain ⟨y, H2, I2, r2, rfl, rfl⟩ := hr
  obtain ⟨t2, rfl⟩ := r2
  refine ⟨sp04, t2, rfl, ?_⟩
  have hz := size04 h0 h1
  rw [← text04 h0] at hz q
  have hz' : (PyProof.Rows.intSpecText f04 i).length ≤ sizeLine := by rw [sizeLine_eq]; omega
  refine wpAny_formatField_spec (T := "int") s04a (fun s' => typeIs_int _ i t) F.slot_int_format F.entry_int_format F.args_int_format_2 (fun u => gives_04 i t u (log04 (by omega)) hz') ?_ (by rw [sizeLine_eq]; decide +kernel) hz'
  exact ⟨.str _, _, I2.tok _, ⟨_, rfl⟩, q⟩
theorem me_fmt0 (ha : PE X e (tM X.K Wx fe)) : PE X (.FormattedValue e (-1) none pos) (tM X.K Wx fun S => bnd (fe S) fun v => fmtM false v) := by
  refine pe_wk (pe_fmt ha) fun σ H Q ⟨ρ, S, W, r, s, p⟩ => ?_
  refine (tM_bnd (R := rV X.K) (m := fe) r s p).elim fun ρ0 ⟨S0, W0, r0, s0, p0⟩ => ⟨ρ0, S0, W0, r0, s0, ?_⟩
  cases e1 : fe S0 W0 with
  | ok v W1 =>
    rw [e1] at p0
    intro ρ1 H1 u u1 s1 r1
    obtain ⟨v2, ρ2, W2, e2, u2, s2, r2, q2⟩ := p0 ρ1 H1 u u1 s1 r1
    cases v2 with
    | int i =>
      have r3 : RelM ρ2 X.K H1 (.int i) u := r2
      unfold RelM at r3; subst r3
      unfold fmtM at q2
      simp only [if_true] at q2
      split at q2
      · next h => exact .inr ⟨i, rfl, h, q2.now s2 (by unfold RelM; rfl)⟩
      · exact q2.elim
    | str y =>
      have r3 : RelM ρ2 X.K H1 (.str y) u := r2
      unfold RelM at r3; subst r3
      unfold fmtM at q2
      simp only [true_and] at q2
      split at q2
      · next h => exact .inl ⟨y, rfl, h, q2.now s2 (by unfold RelM; rfl)⟩
      · exact q2.elim
    | _ => exact q2.elim
  | err x W1 => rw [e1] at p0; exact p0
  | bad => rw [e1] at p0; exact p0.elim
theorem me_fmt4 {k : Nat} (ha : PE X e (tM X.K Wx fe)) : PE X (.FormattedValue e (-1) (some (.JoinedStr [.Constant (.str "04d") k p2] p3)) pos) (tM X.K Wx fun S => bnd (fe S) fun v => fmtM true v) := by
  refine pe_wk (pe_fmt04 ha) fun σ H Q ⟨ρ, S, W, r, s, p⟩ => ?_
  refine (tM_bnd (R := rV X.K) (m := fe) r s p).elim fun ρ0 ⟨S0, W0, r0, s0, p0⟩ => ⟨ρ0, S0, W0, r0, s0, ?_⟩
  cases e1 : fe S0 W0 with
  | ok v W1 =>
    rw [e1] at p0
    intro ρ1 H1 u u1 s1 r1
    obtain ⟨v2, ρ2, W2, e2, u2, s2, r2, q2⟩ := p0 ρ1 H1 u u1 s1 r1
    cases v2 with
    | int i =>
      have r3 : RelM ρ2 X.K H1 (.int i) u := r2
      unfold RelM at r3; subst r3
      unfold fmtM at q2
      simp only [Bool.true_eq_false, if_false] at q2
      split at q2
      · next h => exact ⟨i, rfl, h.1, h.2, q2.now s2 (by unfold RelM; rfl)⟩
      · exact q2.elim
    | str y =>
      unfold fmtM at q2
      simp only [Bool.true_eq_false, false_and, if_false] at q2
      exact q2.elim
    | _ => exact q2.elim
  | err x W1 => rw [e1] at p0; exact p0
  | bad => rw [e1] at p0; exact p0.elim
/-- the parts of an f-string -/
def MJ (X : Cx) (Wx : WL) (es : List Expr) (mj : Str → Env → M MV) : Prop := ∃ ts, PJ X es ts ∧ ∀ acc σ H Q, tM X.K Wx (mj acc) σ H Q → tJs ts acc σ H fun out H1 => Q (.str out) H1
theorem mj_nil : MJ X Wx [] (fun acc _ => ret (.str acc)) := ⟨[], .nil, fun acc σ H Q ⟨ρ, S, W, r, s, p⟩ => p.now s (by show RelM _ _ _ _ _; unfold RelM; rfl)⟩
def joinS (k : Str → M MV) (acc : Str) : MV → M MV
  | .str y => if (acc ++ y).length ≤ sizeLine then k (acc ++ y) else stuck
  | _ => stuck
theorem mj_cons {es : List Expr} {mj : Str → Env → M MV} (ha : PE X e (tM X.K Wx fe)) (hs : MJ X Wx es mj) : MJ X Wx (e :: es) (fun acc S => bnd (fe S) fun v => joinS (fun a => mj a S) acc v) := by
  obtain ⟨ts, h1, h2⟩ := hs
  refine ⟨_, .cons ha h1, fun acc σ H Q h => ?_⟩
  refine tM_then (R := rV X.K) (R' := rV X.K) (m := fe) (f := fun v S => joinS (fun a => mj a S) acc v) h fun ρ S W v u H1 r s rv p => ?_
  cases v with
  | str y =>
    have r3 : RelM ρ X.K H1 (.str y) u := rv
    unfold RelM at r3; subst r3
    unfold joinS at p
    dsimp only at p
    split at p
    · next hl => exact ⟨y, rfl, hl, h2 _ _ _ _ ⟨ρ, S, W, r, s, p⟩⟩
    · exact p.elim
  | _ => exact p.elim
theorem me_fst {v1 v2 : Expr} {rest : List Expr} {mj : Str → Env → M MV} (h : MJ X Wx (v1 :: v2 :: rest) mj) : PE X (.JoinedStr (v1 :: v2 :: rest) pos) (tM X.K Wx (mj Str.empty)) := by
  obtain ⟨ts, h1, h2⟩ := h
  exact pe_wk (pe_joined h1) fun σ H Q q => h2 _ _ _ _ q
theorem me_lrg {a : Expr} {fa : Env → M MV} {p p1 p2 : Pos} (hc : X.calm = true) (hg : Gl X "list") (hm : X.mg "list" = none) (hg2 : Gl X "range") (hm2 : X.mg "range" = none) (ha : PE X a (tM X.K Wx fa)) (hs : starEach [a] X.env = (false, eval a X.env) :: starEach [] X.env) :
    PE X (.Call (.Name "list" p) [.Call (.Name "range" p1) [a] [] p2] [] pos) (tM X.K Wx fun S => bnd (fa S) fun v => lrgM v) := by
  refine pe_wk (pe_listRg hc hg hm (prg_1 hg2 hm2 ha hs)) fun σ H Q h => ?_
  refine tM_then (R := rV X.K) (R' := rV X.K) (m := fa) (f := fun v S => lrgM v) h fun ρ S W v u H1 r s rv q => ?_
  cases v with
  | int j =>
    have r3 : RelM ρ X.K H1 (.int j) u := rv
    unfold RelM at r3; subst r3
    unfold lrgM at q
    dsimp only at q
    split at q
    · next hj =>
      refine ⟨j, rfl, RgOk.of_le (by decide) hj.2 (by decide) hj.1, fun d hd => ?_⟩
      have q2 : PostP ρ X.K H1 Q (Mir.alloc (.lst ((List.range j.toNat).map fun k : Nat => MV.int (k : Int))) W) := PostR.toP q (by intro e w z; cases z)
      refine q2.newL s ?_ hd
      unfold rgV
      rw [Int.sub_zero]
      generalize List.range j.toNat = ks
      induction ks with
      | nil => exact .nil
      | cons k ks ih => exact .cons (by unfold RelM; show V.int (0 + (k : Int)) = _; rw [Int.zero_add]) ih
    · exact q.elim
  | _ => exact q.elim
end
end Mir
set_option Elab.async false
set_option linter.all false
set_option maxRecDepth 100000
set_option maxHeartbeats 4000000
/-! MComp: the program's text, brought into the mirror's form. -/
namespace Mir
open PySem L2
structure Ct where
  T : Prog
  N : List Str
  sc : Scope
  hot : Bool
  ex : Option (Nat × Str)
def isStar : Expr → Bool
  | .Starred .. => true
  | _ => false
def isSup : Expr → Bool
  | .Call (.Name _ _) [] [] _ => true
  | _ => false
def isSet : Expr → Bool
  | .Set .. => true
  | _ => false
def isComp : Expr → Bool
  | .ListComp .. | .SetComp .. | .DictComp .. => true
  | _ => false
def isSlc : Expr → Bool
  | .Slice .. => true
  | _ => false
/-- forms that a test looks into -/
def isTst : Expr → Bool
  | .BoolOp .. | .UnaryOp .Not .. | .Compare .. => true
  | _ => false
def Ct.slot (c : Ct) (x : Str) : Option Nat := match c.N.idxOf? x with
  | some i => if c.N[i]? = some x ∧ (c.sc.names.lookup x = some .local ∨ c.sc.names.lookup x = some .cell ∨ c.sc.names.lookup x = some .free) ∧ (x == ("__debug__" : Str)) = false ∧ (x == ("__classdict__" : Str)) = false ∧ (c.ex.map (·.2)) ≠ some x then some i else none
  | none => none
/-- a local that is stored -/
def Ct.sto (c : Ct) (x : Str) : Option Nat := match c.N.idxOf? x with
  | some i => if c.N[i]? = some x ∧ (c.sc.names.lookup x = some .local ∨ c.sc.names.lookup x = some .cell) ∧ (c.ex.map (·.1)) ≠ some i then some i else none
  | none => none
def Ct.glob (c : Ct) (x : Str) : Bool := decide (c.sc.names.lookup x = some .globalImplicit) && !(x == ("__debug__" : Str))
def litOf : Const → Option MV
  | .none => some .non
  | .bool b => some (.bl b)
  | .int i => some (.int i)
  | .str s => some (.str s)
  | _ => none
def biTab : List (Str × Nat × Bi) := [("len", 1, .len), ("abs", 1, .abs), ("min", 2, .min2), ("max", 2, .max2), ("sum", 1, .sum), ("int", 1, .int), ("repr", 1, .repr), ("all", 1, .all), ("list", 1, .list), ("tuple", 1, .tuple), ("str", 1, .str), ("sorted", 1, .sorted)]
def biOf (x : Str) (k : Nat) : Option Bi := (biTab.find? fun q => decide (q.1 = x) && decide (q.2.1 = k)).map (·.2.2)
def bmTab : List (Str × Nat × Bm) := [("append", 1, .append), ("join", 1, .join), ("insert", 2, .insert), ("reverse", 0, .reverse), ("split", 1, .split), ("split", 2, .splitN), ("extend", 1, .extend)]
def bmOf (x : Str) (k : Nat) : Option Bm := (bmTab.find? fun q => decide (q.1 = x) && decide (q.2.1 = k)).map (·.2.2)
/-- list(range(a)) -/
def lrgOf (b : Bi) : List Expr → Option (Str × Expr)
  | [.Call (.Name r _) [a] [] _] => if b = .list then some (r, a) else none
  | _ => none
def tyNm (x : Str) : Option String := if x = "int" then some "int" else if x = "str" then some "str" else if x = "bool" then some "bool" else if x = "list" then some "list" else if x = "tuple" then some "tuple" else if x = "dict" then some "dict" else none
def kwNames : List Keyword → Option (List Str)
  | [] => some []
  | ⟨some k, _, _⟩ :: r => (kwNames r).map (k :: ·)
  | _ => none
def kwVals (l : List Keyword) : List Expr := l.map (·.value)
def keyStrs : List (Option Expr) → Option (List Str)
  | [] => some []
  | some (.Constant (.str s) _ _) :: r => (keyStrs r).map (s :: ·)
  | _ => none
def inSc (c : Ct) (scope : Scope) : Ct := { c with sc := relS scope c.sc }
mutual
def compE : Nat → Ct → Expr → Option Ex
  | 0, _, _ => none
  | k + 1, c, e => match e with
    | .Constant v _ _ => (litOf v).map .lit
    | .Name x _ => (match c.slot x with
      | some i => some (.var i)
      | none => if c.glob x = true then (c.T.glb.lookup x).map .lit else none)
    | .JoinedStr (v :: u :: r) _ => (compL' k c (v :: u :: r)).map .fst
    | .FormattedValue e (-1) none _ => (compE k c e).map (.fmt false)
    | .FormattedValue e (-1) (some (.JoinedStr [.Constant (.str z) _ _] _)) _ => if z = "04d" then (compE k c e).map (.fmt true) else none
    | .BinOp a op b _ => do return .bin op (← compE k c a) (← compE k c b)
    | .UnaryOp .USub a _ => do return .neg (← compE k c a)
    | .UnaryOp .Not a _ => do return .not (← compE k c a)
    | .Compare a [op] [b] _ => if c.hot = false ∧ behindInMarks op b = false then (do return .cmp op (← compE k c a) (← compE k c b)) else none
    | .Compare a [o, p] [b, d] _ => if c.hot = false ∧ lastMarks [o, p] [b, d] = false then (do return .chain o p (← compE k c a) (← compE k c b) (← compE k c d)) else none
    | .BoolOp .And [a] _ => compE k c a
    | .BoolOp .Or [a] _ => compE k c a
    | .BoolOp .And (a :: b :: r) p => do return .and (← compE k c a) (← compE k c (.BoolOp .And (b :: r) p))
    | .BoolOp .Or (a :: b :: r) p => do return .or (← compE k c a) (← compE k c (.BoolOp .Or (b :: r) p))
    | .IfExp d a b _ => do return .ite (← compE k c d) (← compE k c a) (← compE k c b)
    | .List es _ => (compL' k c es).map .lst
    | .Tuple es _ _ => (compL' k c es).map .tup
    | .Dict ks es _ => match keyStrs ks with
      | some ss => if ks ≠ [] ∧ ks.length = es.length ∧ ks.length ≤ 15 then (compL' k c es).map (.dic ss) else none
      | none => none
    | .Subscript a (.Slice lo hi none _) _ => do return .slc (← compE k c a) (← compO k c lo) (← compO k c hi)
    | .Subscript a i _ => if isSlc i = false then (do return .idx (← compE k c a) (← compE k c i)) else none
    | .Attribute o f _ => match c.hot, c.ex, o with
      | true, some (_, m), .Name x _ => if x = m then some (.exf f) else none
      | true, _, _ => none
      | false, _, _ => if isSup o = false then (do return .att (← compE k c o) f) else none
    | .Call (.Name x _) es kws pos =>
      if c.glob x = false then none else
      if x = "isinstance" then (match kws, es with
        | [], [a, .Name y _] => match c.hot, c.ex, a with
          | true, some (_, m), .Name z _ => if z = m ∧ c.glob y = true then some (.exi y) else none
          | _, _, _ => match tyNm y with
            | some t => if c.glob y = true ∧ isStar a = false then (do return .isi (← compE k c a) [t]) else none
            | none => none
        | _, _ => none)
      else match biOf x es.length, kws with
        | some b, [] => if c.hot = false then (match lrgOf b es with
          | some (r, a) => if r = "range" ∧ c.glob r = true ∧ isStar a = false then (compE k c a).map .lrg else (compL' k c es).map (.bi b)
          | none => (compL' k c es).map (.bi b)) else none
        | _, _ => if c.hot = true then none else if c.T.clss.contains x = true then
            (match kws with
            | [] => if c.T.props.contains (x, "__init__") = false then (compL' k c es).map (.mk x) else none
            | _ => none)
          else match c.T.fns.lookup (x, none), kwNames kws with
            | some _, some ks => do return .call x (← compL' k c es) ks (← compL' k c (kwVals kws))
            | _, _ => none
    | .Call (.Attribute o m apos) es kws pos =>
      if isSup o = false ∧ apos.endLine = pos.line ∧ es.length + kws.length < 28 then
        (match bmOf m es.length, kws with
        | some b, [] => do return .bm b (← compE k c o) (← compL' k c es)
        | _, _ => if c.hot = true then none else match kwNames kws with
          | some ks => do return .mth m (← compE k c o) (← compL' k c es) ks (← compL' k c (kwVals kws))
          | none => none)
      else none
    | .ListComp elt [⟨.Name x _, iter, ifs, 0⟩] scope _ =>
      if c.hot = true then none else match c.N.idxOf? x with
      | none => none
      | some i => if blkC c.N c.sc scope [(x, i)] = true ∧ (relS scope c.sc).names.lookup x = some .local ∧ isSet iter = false then (do
          let (rng, it) ← compI k c iter
          let elt' ← compE k (inSc c scope) elt
          let cond ← compT' k (inSc c scope) ifs
          return .comp elt' i rng it cond) else none
    | _ => none
def compI : Nat → Ct → Expr → Option (Bool × Ex)
  | 0, _, _ => none
  | k + 1, c, e => match e with
    | .Call (.Name x p0) [a] [] p => if x = "range" then (if c.glob x = true ∧ isStar a = false then (compE k c a).map (true, ·) else none) else (compE k c (.Call (.Name x p0) [a] [] p)).map (false, ·)
    | e => (compE k c e).map (false, ·)
def compL' : Nat → Ct → List Expr → Option (List Ex)
  | 0, _, _ => none
  | k + 1, c, es => match es with
    | [] => some []
    | e :: r => if isStar e = false then (do return (← compE k c e) :: (← compL' k c r)) else none
def compO : Nat → Ct → Option Expr → Option (Option Ex)
  | 0, _, _ => none
  | k + 1, c, o => match o with
    | none => some none
    | some e => (compE k c e).map some
def compT' : Nat → Ct → List Expr → Option (Option Ex)
  | 0, _, _ => none
  | k + 1, c, es => match es with
    | [] => some none
    | [e] => (compE k c e).map some
    | _ => none
end
end Mir
set_option Elab.async false
set_option linter.all false
set_option maxRecDepth 100000
set_option maxHeartbeats 4000000
/-! MCompOk: what is brought into the mirror's form does there what it does in the text: expressions. -/
namespace Mir
open PySem L2
/-! ### small looks -/
section
variable {e a b : Expr} {es : List Expr} {env : PySem.Env} {pos : Pos}
theorem star1 (h : isStar e = false) : starEach (e :: es) env = (false, eval e env) :: starEach es env := by
  cases e <;> first | rfl | cases h
theorem sup1 {f : Str} (h : isSup e = false) : attributeBase e f env (eval e env) = eval e env := by
  unfold attributeBase
  split
  · cases h
  · rfl
theorem set1 (h : isSet e = false) (x : Value) : foldedSetIterable e env x = pure x := by
  unfold foldedSetIterable
  cases e <;> first | rfl | cases h
theorem tst1 (h1 : isTst e = false) (h2 : ∀ d a b p, e ≠ .IfExp d a b p) (whole : Sem Value) : isTrue e env whole = (do let v ← whole; standAt e.pos; holding [v] (truthy v)) := by
  cases e with
  | UnaryOp op a p => cases op <;> first | rfl | cases h1
  | BoolOp _ _ _ => cases h1
  | Compare _ _ _ _ => cases h1
  | IfExp d a b p => exact absurd rfl (h2 d a b p)
  | _ => rfl
theorem stars_any : ∀ {es : List Expr}, (∀ x ∈ es, isStar x = false) → (backTo pos (starEach es env)).any (·.1) = false
  | [], _ => rfl
  | e :: es, h => by
    rw [star1 (h e List.mem_cons_self)]
    show (false || (backTo pos (starEach es env)).any (·.1)) = false
    rw [stars_any fun x hx => h x (List.mem_cons_of_mem _ hx)]
    rfl
theorem stars_all : ∀ {es : List Expr}, (∀ x ∈ es, isStar x = false) → (backTo pos (starEach es env)).all (fun x => !x.1) = true
  | [], _ => rfl
  | e :: es, h => by
    rw [star1 (h e List.mem_cons_self)]
    show (true && (backTo pos (starEach es env)).all (fun x => !x.1)) = true
    rw [stars_all fun x hx => h x (List.mem_cons_of_mem _ hx)]
    rfl
theorem kws_all : ∀ {kws : List Keyword} {ks : List Str}, kwNames kws = some ks → (backToKw pos (keywordEach kws env)).all (·.1.isSome) = true ∧ (backToKw pos (keywordEach kws env)).filterMap (·.1) = ks ∧ (backToKw pos (keywordEach kws env)).any (·.1.isNone) = false
  | [], ks, h => by cases h; exact ⟨rfl, rfl, rfl⟩
  | ⟨none, v, p⟩ :: r, ks, h => by cases h
  | ⟨some k, v, p⟩ :: r, ks, h => by
    obtain ⟨l, h1, h2⟩ := Option.map_eq_some_iff.mp h
    subst h2
    obtain ⟨a1, a2, a3⟩ := kws_all (kws := r) h1
    refine ⟨?_, ?_, ?_⟩
    · show (true && (backToKw pos (keywordEach r env)).all (·.1.isSome)) = true
      rw [a1]; rfl
    · show k :: (backToKw pos (keywordEach r env)).filterMap (·.1) = k :: l
      rw [a2]
    · show (false || (backToKw pos (keywordEach r env)).any (·.1.isNone)) = false
      rw [a3]; rfl
end
theorem callTx {X : Cx} {es : List Expr} {kws : List Keyword} {ks : List Str} {pos : Pos} (h : ∀ x ∈ es, isStar x = false) (hk : kwNames kws = some ks) : CallTx X es kws ks pos := by
  obtain ⟨a1, a2, a3⟩ := kws_all (pos := pos) (env := X.env) hk
  exact ⟨a1, a2, by rw [stars_any h, a3]; rfl, fun e r hr => star1 (h e (hr ▸ List.mem_cons_self))⟩
theorem mForm {es : List Expr} {kws : List Keyword} {ks : List Str} {env : PySem.Env} {pos : Pos} (h : ∀ x ∈ es, isStar x = false) (hk : kwNames kws = some ks) (hl : es.length + kws.length < 28) :
    methodCallForm (es.length + kws.length) (backTo pos (starEach es env)) (backToKw pos (keywordEach kws env)) = true := by
  unfold methodCallForm
  rw [stars_all h, (kws_all hk).1]
  simp only [Bool.true_and, decide_eq_true_eq]
  split <;> omega
theorem mCall {o : Expr} {m : Str} {apos pos : Pos} {es : List Expr} {kws : List Keyword} {ks : List Str} {env : PySem.Env} (h : ∀ x ∈ es, isStar x = false) (hk : kwNames kws = some ks) (hl : es.length + kws.length < 28) (hs : isSup o = false) (hp : apos.endLine = pos.line) :
    eval (.Call (.Attribute o m apos) es kws pos) env = (do
      let ov ← eval o env
      standAt apos.atName
      let (f, first) ← holding [ov] (getMethod ov m (plainOf o env))
      callWith pos f first (backTo pos (starEach es env)) (backToKw pos (keywordEach kws env))) := by
  show (do
    let ov ← attributeBase o m env (eval o env)
    standAt apos.atName
    methodCall o m apos pos env ov (es.length + kws.length) (backTo pos (starEach es env)) (backToKw pos (keywordEach kws env))) = _
  rw [sup1 hs]
  have hl' : (apos.endLine == pos.line) = true := by simpa using hp
  simp only [mcall_line (mForm h hk hl) hl']
/-! ### what the mirror's forms do -/
section
variable {c : Calls} {cur : Option Exn}
theorem den_lit (v : MV) : den c cur (.lit v) = fun _ => ret v := by funext S; unfold den; rfl
theorem den_bin (op : Operator) (a b : Ex) : den c cur (.bin op a b) = fun S => bnd (den c cur a S) fun v => bnd (den c cur b S) fun u => binM op v u := by funext S; conv => lhs; unfold den
theorem den_neg (a : Ex) : den c cur (.neg a) = fun S => bnd (den c cur a S) fun v => unM .USub v := by funext S; conv => lhs; unfold den
theorem den_not (a : Ex) : den c cur (.not a) = fun S => bnd (den c cur a S) fun v => unM .Not v := by funext S; conv => lhs; unfold den
theorem den_cmp (op : CmpOp) (a b : Ex) : den c cur (.cmp op a b) = fun S => bnd (den c cur a S) fun v => bnd (den c cur b S) fun u => cmpM op v u := by funext S; conv => lhs; unfold den
theorem den_chain (o p : CmpOp) (a b d : Ex) : den c cur (.chain o p a b d) = fun S => bnd (den c cur a S) fun v => bnd (den c cur b S) fun u => chnM o p (den c cur d) S v u := by
  funext S; conv => lhs; unfold den
  all_goals rfl
theorem den_and (a b : Ex) : den c cur (.and a b) = fun S => bnd (den c cur a S) fun v => bnd (truM v) fun t => if t = true then den c cur b S else ret v := by funext S; conv => lhs; unfold den
theorem den_or (a b : Ex) : den c cur (.or a b) = fun S => bnd (den c cur a S) fun v => bnd (truM v) fun t => if t = true then ret v else den c cur b S := by funext S; conv => lhs; unfold den
theorem bnd_assoc {α β γ : Type} (m : M α) (f : α → M β) (g : β → M γ) : bnd (bnd m f) g = bnd m fun x => bnd (f x) g := by
  funext w; unfold bnd; cases m w <;> rfl
theorem den_ite (d a b : Ex) : den c cur (.ite d a b) = fun S => bnd (bnd (den c cur d S) truM) fun t => if t = true then den c cur a S else den c cur b S := by
  funext S; rw [bnd_assoc]; conv => lhs; unfold den
theorem den_lst (es : List Ex) : den c cur (.lst es) = fun S => bnd (denL c cur es S) fun vs => if vs.length ≤ sizeLine then alloc (.lst vs) else stuck := by funext S; conv => lhs; unfold den
theorem den_tup (es : List Ex) : den c cur (.tup es) = fun S => bnd (denL c cur es S) fun vs => if vs.length ≤ sizeLine then ret (.tup vs) else stuck := by funext S; conv => lhs; unfold den
theorem den_dic (ks : List Str) (es : List Ex) : den c cur (.dic ks es) = fun S w => match denL c cur es S (w ++ [.dic []]) with
      | .ok vs w' => (match w'[w.length]? with
        | some (.dic []) => if ks.length = vs.length ∧ ks.Nodup ∧ vs.length ≤ 15 ∧ vs.length ≠ 0 then .ok (.ref w.length) (w'.set w.length (.dic (ks.zipWith (fun k v => (Sum.inr k, v)) vs))) else .bad
        | _ => .bad)
      | .err e w' => .err e w'
      | .bad => .bad := by
  funext S; conv => lhs; unfold den
  all_goals rfl
theorem den_idx (a i : Ex) : den c cur (.idx a i) = fun S => bnd (den c cur a S) fun v => bnd (den c cur i S) fun u => idxM v u := by funext S; conv => lhs; unfold den
theorem den_slc (a : Ex) (lo hi : Option Ex) : den c cur (.slc a lo hi) = fun S => bnd (den c cur a S) fun v => bnd (denO c cur lo S) fun l => bnd (partM l) fun lo => bnd (denO c cur hi S) fun h => bnd (partM h) fun hi => slcM lo hi v := by funext S; conv => lhs; unfold den
theorem den_bi (b : Bi) (es : List Ex) : den c cur (.bi b es) = fun S => bnd (denL c cur es S) fun vs => biM b vs := by funext S; conv => lhs; unfold den
theorem den_fst (es : List Ex) : den c cur (.fst es) = fun S => denJ c cur es Str.empty S := by funext S; conv => lhs; unfold den
theorem den_fmt (z : Bool) (e : Ex) : den c cur (.fmt z e) = fun S => bnd (den c cur e S) fun v => fmtM z v := by funext S; conv => lhs; unfold den
theorem den_lrg (e : Ex) : den c cur (.lrg e) = fun S => bnd (den c cur e S) fun v => lrgM v := by funext S; conv => lhs; unfold den
theorem denJ_nil : denJ c cur [] = fun acc _ => ret (.str acc) := by funext acc S; conv => lhs; unfold denJ
theorem denJ_cons (e : Ex) (es : List Ex) : denJ c cur (e :: es) = fun acc S => bnd (den c cur e S) fun v => joinS (fun a => denJ c cur es a S) acc v := by
  funext acc S
  conv => lhs; unfold denJ
  all_goals first | rfl | (congr 1; done) | (congr 1; funext v; cases v <;> rfl)
theorem den_isi (e : Ex) (cs : List String) : den c cur (.isi e cs) = fun S => bnd (den c cur e S) fun v => isiM cs v := by funext S; conv => lhs; unfold den
theorem den_bm (m : Bm) (o : Ex) (es : List Ex) : den c cur (.bm m o es) = fun S => bnd (den c cur o S) fun v => bnd (bmChk m v) fun _ => bnd (denL c cur es S) fun vs => bmM m v vs := by funext S; conv => lhs; unfold den
theorem den_call (f : Str) (es : List Ex) (ks : List Str) (kes : List Ex) : den c cur (.call f es ks kes) = fun S => bnd (denL c cur es S) fun vs => bnd (denL c cur kes S) fun us => c.fn (f, none) vs (ks.zip us) := by funext S; conv => lhs; unfold den
theorem den_mth (m : Str) (o : Ex) (es : List Ex) (ks : List Str) (kes : List Ex) : den c cur (.mth m o es ks kes) = fun S => bnd (den c cur o S) fun v => bnd (clsM c m v) fun C => bnd (denL c cur es S) fun vs => bnd (denL c cur kes S) fun us => mthM c m v vs (ks.zip us) C := by funext S; conv => lhs; unfold den
theorem den_mk (C : Str) (es : List Ex) : den c cur (.mk C es) = fun S => bnd (denL c cur es S) fun vs => mkM c C vs := by funext S; conv => lhs; unfold den
theorem den_att (o : Ex) (f : Str) : den c cur (.att o f) = fun S => bnd (den c cur o S) fun v => attM c f v := by funext S; conv => lhs; unfold den
theorem den_comp (elt : Ex) (i : Nat) (rng : Bool) (it : Ex) (cond : Option Ex) : den c cur (.comp elt i rng it cond) = fun S => bnd (bnd (den c cur it S) fun v => if rng = true then rngM v else itmM v) fun I => compM I fun x =>
      bnd (denT c cur cond (S.set i (some x))) fun t => if t = true then bnd (den c cur elt (S.set i (some x))) fun y => ret (some y) else ret none := by
  funext S; rw [bnd_assoc]; conv => lhs; unfold den
theorem denL_nil : denL c cur [] = fun _ => ret [] := by funext S; conv => lhs; unfold denL
theorem denL_cons (e : Ex) (es : List Ex) : denL c cur (e :: es) = fun S => bnd (den c cur e S) fun v => bnd (denL c cur es S) fun vs => ret (v :: vs) := by funext S; conv => lhs; unfold denL
theorem denO_none : denO c cur none = fun _ => ret none := by funext S; conv => lhs; unfold denO
theorem denO_some (e : Ex) : denO c cur (some e) = fun S => bnd (den c cur e S) fun v => ret (some v) := by funext S; conv => lhs; unfold denO
theorem denT_none : denT c cur none = fun _ => ret true := by funext S; conv => lhs; unfold denT
theorem denT_some (e : Ex) : denT c cur (some e) = fun S => bnd (den c cur e S) truM := by funext S; conv => lhs; unfold denT
theorem truM_w {v : MV} {w w' : Wd} {t : Bool} (h : truM v w = .ok t w') : w' = w := by
  unfold truM at h
  split at h <;> (try unfold ret at h) <;> (try split at h) <;> first | (cases h; rfl) | (cases h)
theorem tru_and (m k : M MV) : (bnd (bnd m truM) fun t => if t = true then bnd k truM else ret false) = bnd (bnd m fun v => bnd (truM v) fun t => if t = true then k else ret v) truM := by
  funext w
  unfold bnd
  cases m w with
  | ok v w1 =>
    dsimp only
    cases h : truM v w1 with
    | ok t w2 =>
      have := truM_w h
      subst this
      cases t with
      | true => rfl
      | false =>
        show Res.ok false w2 = _
        simp only [Bool.false_eq_true, if_false, ret, h]
    | err _ _ => rfl
    | bad => rfl
  | err _ _ => rfl
  | bad => rfl
theorem tru_or (m k : M MV) : (bnd (bnd m truM) fun t => if t = true then ret true else bnd k truM) = bnd (bnd m fun v => bnd (truM v) fun t => if t = true then ret v else k) truM := by
  funext w
  unfold bnd
  cases m w with
  | ok v w1 =>
    dsimp only
    cases h : truM v w1 with
    | ok t w2 =>
      have := truM_w h
      subst this
      cases t with
      | true =>
        show Res.ok true w2 = _
        simp only [if_true, ret, h]
      | false => rfl
    | err _ _ => rfl
    | bad => rfl
  | err _ _ => rfl
  | bad => rfl
theorem unM_not (v : MV) : unM .Not v = bnd (truM v) fun b => ret (.bl (!b)) := by cases v <;> rfl
theorem tru_not (m : M MV) : (bnd (bnd m truM) fun t => ret (!t)) = bnd (bnd m fun v => unM .Not v) truM := by
  rw [bnd_assoc, bnd_assoc]
  congr 1
  funext v
  rw [unM_not, bnd_assoc]
  rfl
theorem tru_ite (m : M Bool) (a b : M MV) : (bnd m fun t => if t = true then bnd a truM else bnd b truM) = bnd (bnd m fun t => if t = true then a else b) truM := by
  rw [bnd_assoc]
  congr 1
  funext t
  cases t <;> rfl
end
end Mir
set_option Elab.async false
set_option linter.all false
set_option maxRecDepth 100000
set_option maxHeartbeats 4000000
/-! MCompOk2: expressions, all of them. -/
namespace Mir
open PySem L2
abbrev Ct.cl (c : Ct) (n : Nat) : Calls := c.T.calls (callF c.T n)
structure Okx (n : Nat) (c : Ct) (cur : Option Exn) (X : Cx) (Wx : WL) : Prop where
  N : X.N = c.N
  sc : X.env.scope = c.sc
  nd : X.N.Nodup
  free : ∀ x ∈ freeNames, X.mg x = none
  txt : Txt c.T n X.prog X.w X.K X.mg X.base
  cold : c.hot = false → Snd c.T n X Wx ∧ c.ex = none
  hot : ∀ i m, c.ex = some (i, m) → ∃ (X0 : Cx) (a : Addr) (oe : Obj) (pn : List (Addr × Obj)) (dd : Addr) (e : Exn), X = Cx.suite X0 a ((a, oe) :: pn) ∧ Zc (.ref (He.ga X0.K e.cls)) (some dd) oe ∧ (∃ vs, oe.data = .fields vs) ∧ Wx = sLk X0.K i a e dd ∧ cur = some e ∧
    c.N[i]? = some m ∧ c.sc.names.lookup m = some .local ∧ (m == ("__debug__" : Str)) = false ∧ (m == ("__classdict__" : Str)) = false
  lk : match Wx.e with
    | none => True
    | some l => c.ex.map (·.1) = some l.1
section
variable {n : Nat} {c : Ct} {cur : Option Exn} {X : Cx} {Wx : WL}
theorem Okx.gl (o : Okx n c cur X Wx) {x : Str} (h : c.glob x = true) : Gl X x ∧ (x == ("__debug__" : Str)) = false := by
  unfold Ct.glob at h
  obtain ⟨h1, h2⟩ := Bool.and_eq_true_iff.mp h
  refine ⟨?_, by simpa using h2⟩
  show X.env.scope.names.lookup x = _
  rw [o.sc]
  exact of_decide_eq_true h1
theorem Okx.var (o : Okx n c cur X Wx) {x : Str} {i : Nat} {p : Pos} (h : c.slot x = some i) : PE X (.Name x p) (tVar i) := by
  unfold Ct.slot at h
  split at h
  · split at h
    · next hc =>
      cases h
      obtain ⟨h1, h2, h3, h4, _⟩ := hc
      exact pe_var (by rw [o.N]; exact h1) (by rw [o.sc]; exact h2) h3 h4
    · cases h
  · cases h
theorem Okx.off (o : Okx n c cur X Wx) {x : Str} {j : Nat} (h : c.sto x = some j) : X.N[j]? = some x ∧ L2.Loc X.env.scope x ∧ Wx.e.off j := by
  unfold Ct.sto at h
  split at h
  · split at h
    · next hc =>
      cases h
      obtain ⟨h1, h2, h3⟩ := hc
      refine ⟨by rw [o.N]; exact h1, by unfold L2.Loc; rw [o.sc]; exact h2, ?_⟩
      have l := o.lk
      unfold Lk.off
      cases he : Wx.e with
      | none => exact True.intro
      | some q =>
        rw [he] at l
        intro z
        exact h3 (l.trans (by rw [z]))
    · cases h
  · cases h
def Good (X : Cx) (Wx : WL) (e : Expr) (m : Env → M MV) : Prop := PE X e (tM X.K Wx m) ∧ PT X e (tMb X.K Wx fun S => bnd (m S) truM) ∧ (∀ op vs p, e = .BoolOp op vs p → PW X e (tMb X.K Wx fun S => bnd (m S) truM))
theorem good_plain {e : Expr} {m : Env → M MV} (h : PE X e (tM X.K Wx m)) (h1 : isTst e = false) (h2 : ∀ d a b p, e ≠ .IfExp d a b p) : Good X Wx e m :=
  ⟨h, mt_plain h (tst1 h1 h2), fun op vs p he => by subst he; cases h1⟩
theorem mt_ite {d a b : Expr} {pos : Pos} {ft fa fb : Env → M Bool} (hd : PT X d (tMb X.K Wx ft)) (ha : PT X a (tMb X.K Wx fa)) (hb : PT X b (tMb X.K Wx fb)) :
    PT X (.IfExp d a b pos) (tMb X.K Wx fun S => bnd (ft S) fun t => if t = true then fa S else fb S) := by
  constructor
  intro pins s σ H Q I h
  show wpAny _ _ (do if ← isTrue d X.env (eval d X.env) then isTrue a X.env (eval a X.env) else isTrue b X.env (eval b X.env)) _ _ _
  have q := tM_then (R := rB) (R' := rB) (f := fun t S => if t = true then fa S else fb S) (Q := fun t H1 => tMb X.K Wx (fun S => if t = true then fa S else fb S) σ H1 Q) h fun ρ S W v u H1 r s1 r1 p => by
    have e : v = u := r1
    subst e
    exact ⟨ρ, S, W, r, s1, p⟩
  refine wpAny_bind (thn (hd.run pins s σ H _ I q) fun t s1 g => ?_)
  obtain ⟨H1, I1, q1⟩ := g
  cases t with
  | true =>
    rw [if_pos rfl]
    exact ha.run pins s1 σ H1 Q I1 q1
  | false =>
    rw [if_neg Bool.false_ne_true]
    exact hb.run pins s1 σ H1 Q I1 q1
theorem ty_name (o : Okx n c cur X Wx) {x : Str} {t : String} {p : Pos} (hg : Gl X x) (h : tyNm x = some t) : PE X (.Name x p) (tC (.ty t)) := by
  have hx : x ∈ freeNames ∧ bootBuiltins x = some (.type t) ∧ x ≠ "__name__" ∧ (x == ("__debug__" : Str)) = false := by
    unfold tyNm at h
    (repeat' split at h) <;> first
      | (cases h; done)
      | (rename_i e; subst e; cases h; refine ⟨by decide, by decide +kernel, by decide, by decide⟩)
  obtain ⟨h1, h2, h3, h4⟩ := hx
  exact ⟨fun pins s σ H Q I q => ld_blt I hg (o.free x h1) h2 ⟨.ty t, H, I, rfl, q⟩ h3 h4⟩
theorem bi_name {x : Str} {k : Nat} {b : Bi} (h : biOf x k = some b) : x = biN b ∧ x ∈ freeNames ∧ 1 ≤ k := by
  unfold biOf at h
  obtain ⟨q, h1, rfl⟩ := Option.map_eq_some_iff.mp h
  have h2 := List.mem_of_find?_eq_some h1
  have h3 := List.find?_some h1
  simp only [Bool.and_eq_true, decide_eq_true_eq] at h3
  obtain ⟨rfl, rfl⟩ := h3
  have all : ∀ q ∈ biTab, q.1 = biN q.2.2 ∧ q.1 ∈ freeNames ∧ 1 ≤ q.2.1 := by decide +kernel
  exact all q h2
theorem bm_name {x : Str} {k : Nat} {b : Bm} (h : bmOf x k = some b) : x = bmN b := by
  unfold bmOf at h
  obtain ⟨q, h1, rfl⟩ := Option.map_eq_some_iff.mp h
  have h2 := List.mem_of_find?_eq_some h1
  have h3 := List.find?_some h1
  simp only [Bool.and_eq_true, decide_eq_true_eq] at h3
  obtain ⟨rfl, rfl⟩ := h3
  have all : ∀ q ∈ bmTab, q.1 = bmN q.2.2 := by decide +kernel
  exact all q h2
theorem lrg_of {b : Bi} {es : List Expr} {r : Str} {a : Expr} (h : lrgOf b es = some (r, a)) : ∃ p1 p2, es = [.Call (.Name r p1) [a] [] p2] ∧ b = .list := by
  unfold lrgOf at h
  split at h
  · by_cases hb : b = .list
    · rw [if_pos hb] at h
      cases h
      exact ⟨_, _, rfl, hb⟩
    · rw [if_neg hb] at h
      cases h
  · cases h
theorem blk_ok (o : Okx n c cur X Wx) (h : c.hot = false) (scope : Scope) (s : Shared) (H : Hp) (C : Addr) (cl : List (Str × Addr)) (fp : List Addr) : Okx n (inSc c scope) cur (X.blk s H scope (compEnvC scope cl C X.env) fp) noL := by
  obtain ⟨sd, he⟩ := o.cold h
  refine ⟨o.N, ?_, o.nd, o.free, o.txt, fun _ => ⟨⟨sd.nd, sd.room, sd.calm, sd.sys, fun _ _ x => ?_, sd.free, sd.txt⟩, he⟩, fun i m hx => ?_, True.intro⟩
  · show relS scope X.env.scope = relS scope c.sc
    rw [o.sc]
  · obtain ⟨_, _, _, _, _, _, _, _, _, _, _, _, _, _, _, _, z⟩ := x
    exact z.elim
  · have hx' : c.ex = some (i, m) := hx
    rw [he] at hx'
    cases hx'
end
end Mir
set_option Elab.async false
set_option linter.all false
set_option maxRecDepth 100000
set_option maxHeartbeats 4000000
/-! MCompOk3: expressions, the whole induction. -/
namespace Mir
open PySem L2
structure GoodL (X : Cx) (Wx : WL) (es : List Expr) (m : Env → M (List MV)) (mj : Str → Env → M MV) : Prop where
  pj : MJ X Wx es mj
  pa : PA X es (tMs X.K Wx m)
  st : ∀ x ∈ es, isStar x = false
  pk : ∀ kws, kwVals kws = es → PK X kws (tMs X.K Wx m)
  md : ∀ pos ks ss, keyStrs ks = some ss → ks.length = es.length → MDp X Wx pos ks es ss m
structure AllOk (n k : Nat) : Prop where
  e : ∀ c cur X Wx e ir, Okx n c cur X Wx → compE k c e = some ir → Good X Wx e (den (c.cl n) cur ir)
  i : ∀ c cur X Wx e q tg, Okx n c cur X Wx → compI k c e = some q → PI X tg e (iM X.K Wx fun S => bnd (den (c.cl n) cur q.2 S) fun v => if q.1 = true then rngM v else itmM v)
  l : ∀ c cur X Wx es irs, Okx n c cur X Wx → compL' k c es = some irs → GoodL X Wx es (denL (c.cl n) cur irs) (denJ (c.cl n) cur irs)
  o : ∀ c cur X Wx oe ir, Okx n c cur X Wx → compO k c oe = some ir → MO X Wx oe (denO (c.cl n) cur ir)
  t : ∀ c cur X Wx es ir, Okx n c cur X Wx → compT' k c es = some ir → PTs X es (tMb X.K Wx (denT (c.cl n) cur ir))
theorem keys_len : ∀ {ks : List (Option Expr)} {ss : List Str}, keyStrs ks = some ss → ss.length = ks.length ∧ ks.all (·.isSome) = true := by
  intro ks
  induction ks with
  | nil => intro ss h; cases h; exact ⟨rfl, rfl⟩
  | cons a r ih =>
    intro ss h
    unfold keyStrs at h
    split at h
    · rename_i e; cases e
    · rename_i e
      cases e
      obtain ⟨l, h1, rfl⟩ := Option.map_eq_some_iff.mp h
      obtain ⟨h2, h3⟩ := ih h1
      exact ⟨by simp [h2], by simp only [List.all_cons, h3]; rfl⟩
    · cases h
section
variable {n k : Nat}
theorem okL (A : AllOk n k) : ∀ c cur X Wx es irs, Okx n c cur X Wx → compL' (k + 1) c es = some irs → GoodL X Wx es (denL (c.cl n) cur irs) (denJ (c.cl n) cur irs) := by
  intro c cur X Wx es irs o h
  unfold compL' at h
  split at h
  · cases h
    rw [denL_nil, denJ_nil]
    refine ⟨mj_nil, ms_nil, fun x hx => absurd hx (by simp), fun kws hk => ?_, fun pos ks ss hs hl => ?_⟩
    · cases kws with
      | nil => exact mk_nil
      | cons a b => cases hk
    · cases ks with
      | nil => cases hs; exact md_nil
      | cons a b => simp at hl
  · next e r =>
    split at h
    · next hst =>
      obtain ⟨ie, h1, h⟩ := Option.bind_eq_some_iff.mp h
      obtain ⟨ir, h2, h⟩ := Option.bind_eq_some_iff.mp h
      cases h
      have ge := A.e c cur X Wx e ie o h1
      have gl := A.l c cur X Wx r ir o h2
      rw [denL_cons, denJ_cons]
      refine ⟨mj_cons ge.1 gl.pj, ms_cons ge.1 gl.pa (star1 hst), fun x hx => ?_, fun kws hk => ?_, fun pos ks ss hs hl => ?_⟩
      · rcases List.mem_cons.mp hx with rfl | hx
        · exact hst
        · exact gl.st x hx
      · cases kws with
        | nil => cases hk
        | cons a b =>
          obtain ⟨nm, v, kp⟩ := a
          cases hk
          exact mk_cons ge.1 (gl.pk b rfl)
      · cases ks with
        | nil => simp at hl
        | cons a b =>
          unfold keyStrs at hs
          split at hs
          · rename_i e; cases e
          · rename_i e
            cases e
            obtain ⟨l, q1, rfl⟩ := Option.map_eq_some_iff.mp hs
            exact md_cons pe_str ge.1 (gl.md pos b l q1 (by simpa using hl))
          · cases hs
    · cases h
theorem okO (A : AllOk n k) : ∀ c cur X Wx oe ir, Okx n c cur X Wx → compO (k + 1) c oe = some ir → MO X Wx oe (denO (c.cl n) cur ir) := by
  intro c cur X Wx oe ir o h
  unfold compO at h
  split at h
  · cases h
    rw [denO_none]
    exact mo_none
  · obtain ⟨ie, h1, rfl⟩ := Option.map_eq_some_iff.mp h
    rw [denO_some]
    exact mo_some (A.e c cur X Wx _ ie o h1).1
theorem okT (A : AllOk n k) : ∀ c cur X Wx es ir, Okx n c cur X Wx → compT' (k + 1) c es = some ir → PTs X es (tMb X.K Wx (denT (c.cl n) cur ir)) := by
  intro c cur X Wx es ir o h
  unfold compT' at h
  split at h
  · cases h
    rw [denT_none]
    refine ⟨fun pins s σ H Q I h => pts_nil.run pins s σ H Q I ?_⟩
    obtain ⟨ρ, S, W, r, sm, p⟩ := h
    exact p ρ H true .refl sm rfl
  · obtain ⟨ie, h1, rfl⟩ := Option.map_eq_some_iff.mp h
    rw [denT_some]
    exact pts_one (A.e c cur X Wx _ ie o h1).2.1
  · cases h
theorem okI (A : AllOk n k) : ∀ c cur X Wx e q tg, Okx n c cur X Wx → compI (k + 1) c e = some q → PI X tg e (iM X.K Wx fun S => bnd (den (c.cl n) cur q.2 S) fun v => if q.1 = true then rngM v else itmM v) := by
  intro c cur X Wx e q tg o h
  unfold compI at h
  split at h
  · next x p0 a p =>
    split at h
    · next hx =>
      subst hx
      split at h
      · next hc =>
        obtain ⟨ie, h1, rfl⟩ := Option.map_eq_some_iff.mp h
        exact mi_rng (A.e c cur X Wx a ie o h1).1 (o.gl hc.1).1 (o.free _ (by decide)) (star1 hc.2)
      · cases h
    · obtain ⟨ie, h1, rfl⟩ := Option.map_eq_some_iff.mp h
      exact mi_any (A.e c cur X Wx _ ie o h1).1
  · obtain ⟨ie, h1, rfl⟩ := Option.map_eq_some_iff.mp h
    exact mi_any (A.e c cur X Wx _ ie o h1).1
theorem lit_ok {X : Cx} {v : Const} {mv : MV} {j : Nat} {pos : Pos} (h : litOf v = some mv) : ∃ x, PE X (.Constant v j pos) (tC x) ∧ ∀ ρ H, RelM ρ X.K H mv x := by
  unfold litOf at h
  split at h <;> cases h
  · exact ⟨.non, pe_non, fun _ _ => by unfold RelM; rfl⟩
  · exact ⟨.bl _, pe_bl, fun _ _ => by unfold RelM; rfl⟩
  · exact ⟨.int _, pe_int, fun _ _ => by unfold RelM; rfl⟩
  · exact ⟨.str _, pe_str, fun _ _ => by unfold RelM; rfl⟩
theorem plainIx {b : Expr} (h : isSlc b = false) : PlainIx b := by
  intro o i
  cases b <;> first | rfl | cases h
theorem bool1 {X : Cx} {Wx : WL} {op : BoolOp} {a : Expr} {pos : Pos} {m : Env → M MV} (g : Good X Wx a m) : Good X Wx (.BoolOp op [a] pos) m := by
  have h1 : PE X (.BoolOp op [a] pos) (tM X.K Wx m) := ⟨fun pins s σ H Q I h => by
    have z := g.1.run pins s σ H Q I h
    cases op <;> exact z⟩
  have h2 : PW X (.BoolOp op [a] pos) (tMb X.K Wx fun S => bnd (m S) truM) := by
    cases op
    · exact pw_and1 g.2.1
    · exact pw_or1 g.2.1
  exact ⟨h1, h2.pt, fun op vs p e => by cases e; exact h2⟩
theorem okE (A : AllOk n k) : ∀ c cur X Wx e ir, Okx n c cur X Wx → compE (k + 1) c e = some ir → Good X Wx e (den (c.cl n) cur ir) := by
  intro c cur X Wx e ir o h
  unfold compE at h
  split at h
  · -- constant
    obtain ⟨mv, h1, rfl⟩ := Option.map_eq_some_iff.mp h
    obtain ⟨x, h2, h3⟩ := lit_ok (X := X) h1
    refine good_plain ?_ rfl (fun _ _ _ _ z => nomatch z)
    rw [den_lit]
    exact me_lit h2 h3
  · -- name
    split at h
    · next i h1 =>
      cases h
      exact good_plain (me_var (o.var h1) _ _) rfl (fun _ _ _ _ z => nomatch z)
    · split at h
      · next hg =>
        obtain ⟨v, h1, rfl⟩ := Option.map_eq_some_iff.mp h
        obtain ⟨u, xv, g1, g2, g3⟩ := o.txt.glb _ _ h1
        obtain ⟨g4, g5⟩ := o.gl hg
        refine good_plain ?_ rfl (fun _ _ _ _ z => nomatch z)
        rw [den_lit]
        exact me_lit (pe_glob g4 g1 g2 g5) g3
      · cases h
  · -- f'..'
    obtain ⟨is, h1, rfl⟩ := Option.map_eq_some_iff.mp h
    refine good_plain ?_ rfl (fun _ _ _ _ z => nomatch z)
    rw [den_fst]
    exact me_fst (A.l _ _ _ _ _ _ o h1).pj
  · -- {e}
    obtain ⟨ia, h1, rfl⟩ := Option.map_eq_some_iff.mp h
    refine good_plain ?_ rfl (fun _ _ _ _ z => nomatch z)
    rw [den_fmt]
    exact me_fmt0 (A.e _ _ _ _ _ _ o h1).1
  · -- {e:04d}
    split at h
    · next hz =>
      subst hz
      obtain ⟨ia, h1, rfl⟩ := Option.map_eq_some_iff.mp h
      refine good_plain ?_ rfl (fun _ _ _ _ z => nomatch z)
      rw [den_fmt]
      exact me_fmt4 (A.e _ _ _ _ _ _ o h1).1
    · cases h
  · -- two
    obtain ⟨ia, h1, h⟩ := Option.bind_eq_some_iff.mp h
    obtain ⟨ib, h2, h⟩ := Option.bind_eq_some_iff.mp h
    cases h
    refine good_plain ?_ rfl (fun _ _ _ _ z => nomatch z)
    rw [den_bin]
    exact me_bin (A.e _ _ _ _ _ _ o h1).1 (A.e _ _ _ _ _ _ o h2).1
  · -- -a
    obtain ⟨ia, h1, h⟩ := Option.bind_eq_some_iff.mp h
    cases h
    refine good_plain ?_ rfl (fun _ _ _ _ z => nomatch z)
    rw [den_neg]
    exact me_neg (A.e _ _ _ _ _ _ o h1).1
  · -- not
    obtain ⟨ia, h1, h⟩ := Option.bind_eq_some_iff.mp h
    cases h
    have g := A.e _ _ _ _ _ _ o h1
    rw [den_not]
    refine ⟨me_not g.1, ?_, fun _ _ _ z => nomatch z⟩
    have e : (fun S => bnd (bnd (den (c.cl n) cur ia S) fun v => unM .Not v) truM) = fun S => bnd (bnd (den (c.cl n) cur ia S) truM) fun t => ret (!t) := by funext S; exact (tru_not _).symm
    rw [e]
    exact mt_not g.2.1
  · -- comparison
    split at h
    · next hc =>
      obtain ⟨ia, h1, h⟩ := Option.bind_eq_some_iff.mp h
      obtain ⟨ib, h2, h⟩ := Option.bind_eq_some_iff.mp h
      cases h
      have C := (o.cold hc.1).1.cx
      rw [den_cmp]
      exact ⟨me_cmp C (A.e _ _ _ _ _ _ o h1).1 (A.e _ _ _ _ _ _ o h2).1 hc.2, mt_cmp C (A.e _ _ _ _ _ _ o h1).1 (A.e _ _ _ _ _ _ o h2).1 hc.2, fun _ _ _ z => nomatch z⟩
    · cases h
  · -- a < b < c
    split at h
    · next hc =>
      obtain ⟨ia, h1, h⟩ := Option.bind_eq_some_iff.mp h
      obtain ⟨ib, h2, h⟩ := Option.bind_eq_some_iff.mp h
      obtain ⟨id, h3, h⟩ := Option.bind_eq_some_iff.mp h
      cases h
      have C := (o.cold hc.1).1.cx
      rw [den_chain]
      exact ⟨me_chain C (A.e _ _ _ _ _ _ o h1).1 (A.e _ _ _ _ _ _ o h2).1 (A.e _ _ _ _ _ _ o h3).1 hc.2, mt_chain C (A.e _ _ _ _ _ _ o h1).1 (A.e _ _ _ _ _ _ o h2).1 (A.e _ _ _ _ _ _ o h3).1 hc.2, fun _ _ _ z => nomatch z⟩
    · cases h
  · exact bool1 (A.e _ _ _ _ _ _ o h)
  · exact bool1 (A.e _ _ _ _ _ _ o h)
  · -- and
    obtain ⟨ia, h1, h⟩ := Option.bind_eq_some_iff.mp h
    obtain ⟨ib, h2, h⟩ := Option.bind_eq_some_iff.mp h
    cases h
    have ga := A.e _ _ _ _ _ _ o h1
    have gb := A.e _ _ _ _ _ _ o h2
    rw [den_and]
    have e : (fun S => bnd (bnd (den (c.cl n) cur ia S) fun v => bnd (truM v) fun t => if t = true then den (c.cl n) cur ib S else ret v) truM) = fun S => bnd (bnd (den (c.cl n) cur ia S) truM) fun t => if t = true then bnd (den (c.cl n) cur ib S) truM else ret false := by
      funext S; exact (tru_and _ _).symm
    have w := mw_and (rest := _) (pos := _) ga.2.1 (gb.2.2 _ _ _ rfl)
    refine ⟨me_and ga.1 gb.1, ?_, fun op vs p z => ?_⟩
    · rw [e]; exact w.pt
    · cases z; rw [e]; exact w
  · -- or
    obtain ⟨ia, h1, h⟩ := Option.bind_eq_some_iff.mp h
    obtain ⟨ib, h2, h⟩ := Option.bind_eq_some_iff.mp h
    cases h
    have ga := A.e _ _ _ _ _ _ o h1
    have gb := A.e _ _ _ _ _ _ o h2
    rw [den_or]
    have e : (fun S => bnd (bnd (den (c.cl n) cur ia S) fun v => bnd (truM v) fun t => if t = true then ret v else den (c.cl n) cur ib S) truM) = fun S => bnd (bnd (den (c.cl n) cur ia S) truM) fun t => if t = true then ret true else bnd (den (c.cl n) cur ib S) truM := by
      funext S; exact (tru_or _ _).symm
    have w := mw_or (rest := _) (pos := _) ga.2.1 (gb.2.2 _ _ _ rfl)
    refine ⟨me_or ga.1 gb.1, ?_, fun op vs p z => ?_⟩
    · rw [e]; exact w.pt
    · cases z; rw [e]; exact w
  · -- a if d else b
    obtain ⟨id, h1, h⟩ := Option.bind_eq_some_iff.mp h
    obtain ⟨ia, h2, h⟩ := Option.bind_eq_some_iff.mp h
    obtain ⟨ib, h3, h⟩ := Option.bind_eq_some_iff.mp h
    cases h
    have gd := A.e _ _ _ _ _ _ o h1
    have ga := A.e _ _ _ _ _ _ o h2
    have gb := A.e _ _ _ _ _ _ o h3
    rw [den_ite]
    refine ⟨me_ite gd.2.1 ga.1 gb.1, ?_, fun _ _ _ z => nomatch z⟩
    have e : (fun S => bnd (bnd (bnd (den (c.cl n) cur id S) truM) fun t => if t = true then den (c.cl n) cur ia S else den (c.cl n) cur ib S) truM) = fun S => bnd (bnd (den (c.cl n) cur id S) truM) fun t => if t = true then bnd (den (c.cl n) cur ia S) truM else bnd (den (c.cl n) cur ib S) truM := by
      funext S; exact (tru_ite _ _ _).symm
    rw [e]
    exact mt_ite gd.2.1 ga.2.1 gb.2.1
  · -- list
    obtain ⟨is, h1, rfl⟩ := Option.map_eq_some_iff.mp h
    refine good_plain ?_ rfl (fun _ _ _ _ z => nomatch z)
    rw [den_lst]
    exact me_lst (A.l _ _ _ _ _ _ o h1).pa
  · -- tuple
    obtain ⟨is, h1, rfl⟩ := Option.map_eq_some_iff.mp h
    refine good_plain ?_ rfl (fun _ _ _ _ z => nomatch z)
    rw [den_tup]
    exact me_tup (A.l _ _ _ _ _ _ o h1).pa
  · -- dict
    split at h
    · next ss hss =>
      split at h
      · next hc =>
        obtain ⟨is, h1, rfl⟩ := Option.map_eq_some_iff.mp h
        refine good_plain ?_ rfl (fun _ _ _ _ z => nomatch z)
        rw [den_dic]
        exact me_dic ((A.l _ _ _ _ _ _ o h1).md _ _ ss hss hc.2.1) (keys_len hss).2 hc.2.1 hc.1 hc.2.2 (keys_len hss).1
      · cases h
    · cases h
  · -- slice
    obtain ⟨ia, h1, h⟩ := Option.bind_eq_some_iff.mp h
    obtain ⟨il, h2, h⟩ := Option.bind_eq_some_iff.mp h
    obtain ⟨ih, h3, h⟩ := Option.bind_eq_some_iff.mp h
    cases h
    refine good_plain ?_ rfl (fun _ _ _ _ z => nomatch z)
    rw [den_slc]
    exact me_slc (A.e _ _ _ _ _ _ o h1).1 (A.o _ _ _ _ _ _ o h2) (A.o _ _ _ _ _ _ o h3)
  · -- index
    split at h
    · next hs =>
      obtain ⟨ia, h1, h⟩ := Option.bind_eq_some_iff.mp h
      obtain ⟨ib, h2, h⟩ := Option.bind_eq_some_iff.mp h
      cases h
      refine good_plain ?_ rfl (fun _ _ _ _ z => nomatch z)
      rw [den_idx]
      exact me_idx (A.e _ _ _ _ _ _ o h1).1 (A.e _ _ _ _ _ _ o h2).1 (plainIx hs)
    · cases h
  · -- attribute
    next ob f p =>
    split at h
    · next i m x p0 hh hx =>
      split at h
      · next hxm =>
        subst hxm
        cases h
        obtain ⟨X0, a, oe, pn, dd, ex, rfl, hz, hf, rfl, rfl, hN, hl, hd1, hd2⟩ := o.hot _ _ hx
        have hv : PE (X0.suite a ((a, oe) :: pn)) (.Name x p0) (tVar i) := pe_var (by rw [o.N]; exact hN) (by rw [o.sc]; exact .inl hl) hd1 hd2
        exact good_plain (me_exf (X := X0) (n := n) o.txt hz hf hv rfl) rfl (fun _ _ _ _ z => nomatch z)
      · cases h
    · cases h
    · next hh =>
      split at h
      · next hs =>
        obtain ⟨ia, h1, h⟩ := Option.bind_eq_some_iff.mp h
        cases h
        refine good_plain ?_ rfl (fun _ _ _ _ z => nomatch z)
        rw [den_att]
        exact me_att (o.cold hh).1 (A.e _ _ _ _ _ _ o h1).1 (sup1 hs)
      · cases h
  · -- f(..)
    next x p0 es kws pos =>
    have plain : ∀ {q : Expr} {m : Env → M MV}, q = .Call (.Name x p0) es kws pos → PE X q (tM X.K Wx m) → Good X Wx q m := fun {q m} e g => by subst e; exact good_plain g rfl (fun _ _ _ _ z => nomatch z)
    refine plain rfl ?_
    split at h
    · cases h
    · next hg0 =>
      have hg1 : c.glob x = true := by simpa using hg0
      obtain ⟨hg, hdb⟩ := o.gl hg1
      split at h
      · next hx =>
        subst hx
        split at h
        · next a y yp =>
          split at h
          · next i m z zp hh hx =>
            split at h
            · next hc =>
              obtain ⟨rfl, hy⟩ := hc
              cases h
              have tx := o.txt
              have fr := o.free
              have hy2 := o.gl hy
              obtain ⟨X0, a, oe, pn, dd, ex, rfl, hz, hf, rfl, rfl, hN, hl, hd1, hd2⟩ := o.hot _ _ hx
              have hv : PE (X0.suite a ((a, oe) :: pn)) (.Name z zp) (tVar i) := pe_var (by rw [o.N]; exact hN) (by rw [o.sc]; exact .inl hl) hd1 hd2
              exact me_exi (X := X0) (n := n) tx hz hf hv hg (fr _ (by decide)) hy2.1 hy2.2
            · cases h
          · split at h
            · next t ht =>
              split at h
              · next hc =>
                obtain ⟨ia, h1, h⟩ := Option.bind_eq_some_iff.mp h
                cases h
                rw [den_isi]
                exact me_isi (A.e _ _ _ _ _ _ o h1).1 (.one (ty_name o (o.gl hc.1).1 ht)) hg (o.free _ (by decide)) (star1 hc.2)
              · cases h
            · cases h
        · cases h
      · split at h
        · next _ _ b hb =>
          split at h
          · next hh =>
            have usual : ∀ {ir}, (compL' k c es).map (Ex.bi b) = some ir → PE X (.Call (.Name x p0) es [] pos) (tM X.K Wx (den (c.cl n) cur ir)) := fun {ir} h => by
              obtain ⟨is, h1, rfl⟩ := Option.map_eq_some_iff.mp h
              have gl := A.l _ _ _ _ _ _ o h1
              obtain ⟨rfl, hfr, hlen⟩ := bi_name hb
              cases es with
              | nil => simp at hlen
              | cons e es =>
                rw [den_bi]
                exact me_bi (o.cold hh).1.cx gl.pa hg (o.free _ hfr) (star1 (gl.st e List.mem_cons_self)) (stars_any fun y hy => gl.st y (List.mem_cons_of_mem _ hy))
            split at h
            · next r a hr =>
              split at h
              · next hc =>
                obtain ⟨rfl, hgr, hst⟩ := hc
                obtain ⟨ia, h1, rfl⟩ := Option.map_eq_some_iff.mp h
                obtain ⟨p1, p2, rfl, rfl⟩ := lrg_of hr
                obtain ⟨rfl, hfr, hlen⟩ := bi_name hb
                rw [den_lrg]
                exact me_lrg (o.cold hh).1.calm hg (o.free _ hfr) (o.gl hgr).1 (o.free _ (by decide)) (A.e _ _ _ _ _ _ o h1).1 (star1 hst)
              · exact usual h
            · exact usual h
          · cases h
        · split at h
          · cases h
          · next hh =>
            have hh' : c.hot = false := by simpa using hh
            have sd := (o.cold hh').1
            split at h
            · next hC =>
              split at h
              · split at h
                · next hp =>
                  obtain ⟨is, h1, rfl⟩ := Option.map_eq_some_iff.mp h
                  have gl := A.l _ _ _ _ _ _ o h1
                  rw [den_mk]
                  exact me_mk sd (callTx gl.st rfl) (fun e => by
                    subst e
                    cases k with
                    | zero => cases h1
                    | succ k => cases h1; exact denL_nil) hC hp hg hdb gl.pa
                · cases h
              · cases h
            · split at h
              · next d ks hd hks =>
                obtain ⟨is, h1, h⟩ := Option.bind_eq_some_iff.mp h
                obtain ⟨js, h2, h⟩ := Option.bind_eq_some_iff.mp h
                cases h
                have gl := A.l _ _ _ _ _ _ o h1
                have gk := A.l _ _ _ _ _ _ o h2
                rw [den_call]
                exact me_call sd (callTx gl.st hks) (fun e => by
                  subst e
                  cases k with
                  | zero => cases h1
                  | succ k => cases h1; exact denL_nil) hd hg hdb gl.pa (gk.pk _ rfl)
              · cases h
  · -- o.m(..)
    next ob m apos es kws pos =>
    have plain : ∀ {q : Expr} {m' : Env → M MV}, q = .Call (.Attribute ob m apos) es kws pos → PE X q (tM X.K Wx m') → Good X Wx q m' := fun {q m'} e g => by subst e; exact good_plain g rfl (fun _ _ _ _ z => nomatch z)
    refine plain rfl ?_
    split at h
    · next hc =>
      obtain ⟨hs, hp, hl⟩ := hc
      have hp' : (apos.endLine == pos.line) = true := by simpa using hp
      split at h
      · next b hb =>
        obtain ⟨io, h1, h⟩ := Option.bind_eq_some_iff.mp h
        obtain ⟨is, h2, h⟩ := Option.bind_eq_some_iff.mp h
        cases h
        have gl := A.l _ _ _ _ _ _ o h2
        obtain rfl := bm_name hb
        rw [den_bm]
        cases es with
        | nil =>
          have e0 : denL (c.cl n) cur is = fun _ => ret [] := by
            cases k with
            | zero => cases h2
            | succ k => cases h2; exact denL_nil
          rw [e0]
          exact me_bm0 (A.e _ _ _ _ _ _ o h1).1 (sup1 hs) hp'
        | cons a as =>
          have hf : methodCallForm ((a :: as).length + ([] : List Keyword).length) (backTo pos (starEach (a :: as) X.env)) (backToKw pos (keywordEach [] X.env)) = true := mForm (ks := []) gl.st rfl hl
          exact me_bm (A.e _ _ _ _ _ _ o h1).1 gl.pa (sup1 hs) hf hp' (star1 (gl.st a List.mem_cons_self)) (stars_any fun y hy => gl.st y (List.mem_cons_of_mem _ hy))
      · split at h
        · cases h
        · next hh =>
          have hh' : c.hot = false := by simpa using hh
          split at h
          · next ks hks =>
            obtain ⟨io, h1, h⟩ := Option.bind_eq_some_iff.mp h
            obtain ⟨is, h2, h⟩ := Option.bind_eq_some_iff.mp h
            obtain ⟨js, h3, h⟩ := Option.bind_eq_some_iff.mp h
            cases h
            have gl := A.l _ _ _ _ _ _ o h2
            have gk := A.l _ _ _ _ _ _ o h3
            rw [den_mth]
            exact me_mth (o.cold hh').1 (callTx gl.st hks) (fun e => by
              subst e
              cases k with
              | zero => cases h2
              | succ k => cases h2; exact denL_nil) (mCall gl.st hks hl hs hp) (A.e _ _ _ _ _ _ o h1).1 gl.pa (gk.pk _ rfl)
          · cases h
    · cases h
  · -- [.. for .. in ..]
    next elt x xp iter ifs scope pos =>
    have plain : ∀ {q : Expr} {m' : Env → M MV}, q = .ListComp elt [⟨.Name x xp, iter, ifs, 0⟩] scope pos → PE X q (tM X.K Wx m') → Good X Wx q m' := fun {q m'} e g => by subst e; exact good_plain g rfl (fun _ _ _ _ z => nomatch z)
    refine plain rfl ?_
    split at h
    · cases h
    · next hh =>
      have hh' : c.hot = false := by simpa using hh
      obtain ⟨sd, he⟩ := o.cold hh'
      split at h
      · cases h
      · next i hi =>
        split at h
        · next hc =>
          obtain ⟨hb, hx, hset⟩ := hc
          obtain ⟨q, h1, h⟩ := Option.bind_eq_some_iff.mp h
          obtain ⟨ie, h2, h⟩ := Option.bind_eq_some_iff.mp h
          obtain ⟨ic, h3, h⟩ := Option.bind_eq_some_iff.mp h
          cases h
          have bk : BlkOk X.N X.env.scope scope [(x, i)] := by rw [o.N, o.sc]; exact blkOk_by hb
          rw [den_comp]
          exact me_comp sd.calm o.nd (A.i _ _ _ _ _ q _ o h1) bk
            (fun s H C cl fp => pg_name o.nd (bk.ix (x, i) List.mem_cons_self) (.inl (by show (relS scope X.env.scope).names.lookup x = _; rw [o.sc]; exact hx)) (.inr (by show (relS scope X.env.scope).names.lookup x = _; rw [o.sc]; exact hx)))
            (fun s H C cl fp => A.t (inSc c scope) _ _ _ _ _ (blk_ok o hh' scope s H C cl fp) h3)
            (fun s H C cl fp => (A.e (inSc c scope) _ _ _ _ _ (blk_ok o hh' scope s H C cl fp) h2).1)
            (set1 hset)
        · cases h
  · cases h
theorem all_ok : ∀ k, AllOk n k
  | 0 => ⟨fun _ _ _ _ _ _ _ h => (by cases h), fun _ _ _ _ _ _ _ _ h => (by cases h), fun _ _ _ _ _ _ _ h => (by cases h), fun _ _ _ _ _ _ _ h => (by cases h), fun _ _ _ _ _ _ _ h => (by cases h)⟩
  | k + 1 => ⟨okE (all_ok k), okI (all_ok k), okL (all_ok k), okO (all_ok k), okT (all_ok k)⟩
end
end Mir
set_option Elab.async false
set_option linter.all false
set_option maxRecDepth 100000
set_option maxHeartbeats 4000000
/-! MCompS: statements, brought into the mirror's form. -/
namespace Mir
open PySem L2
/-- stores of several names at once: as the machine decides on them -/
def swT (sc : Scope) (ts vs : List Expr) : Option (Option (List Str)) :=
    if (!(ts.length == 2 || ts.length == 3) || vs.length != ts.length || false) = true then some none else
    if (vs.any fun | .Starred .. => true | _ => false) = true then some none else
    if ((ts.filterMap fun
      | .Name id pos => if (sc.names.lookup id == some .local && pos.line == (ts.head?.map (·.pos.line)).getD 0) = true then some id else none
      | _ => none).length != ts.length || (ts.filterMap fun
      | .Name id pos => if (sc.names.lookup id == some .local && pos.line == (ts.head?.map (·.pos.line)).getD 0) = true then some id else none
      | _ => none).eraseDups.length != (ts.filterMap fun
      | .Name id pos => if (sc.names.lookup id == some .local && pos.line == (ts.head?.map (·.pos.line)).getD 0) = true then some id else none
      | _ => none).length) = true then some none else
    if vs.all (foldedForSure 8) = true then some none else
    if vs.all (constantsAlone 8) = true then none else
    some (some (ts.filterMap fun
      | .Name id pos => if (sc.names.lookup id == some .local && pos.line == (ts.head?.map (·.pos.line)).getD 0) = true then some id else none
      | _ => none))
def swN (sc : Scope) (tg value : Expr) : Option (Option (List Str)) := match tg, value with
  | .Tuple ts _ _, .Tuple vs _ _ => swT sc ts vs
  | .List _ _, .Tuple _ _ _ => none
  | _, _ => some none
theorem swT_ok {env : PySem.Env} (hk : env.scope.kind = .function) {ts vs : List Expr} {k1 k2 : Nat} {p1 p2 : Pos} {r : Option (List Str)} (h : swT env.scope ts vs = some r) : swappedStores [.Tuple ts k1 p1] (.Tuple vs k2 p2) env = pure r := by
  have hb : env.blockKind = .function := by unfold PySem.Env.blockKind; rw [hk]; rfl
  unfold swT at h
  unfold swappedStores
  dsimp only
  rw [hb]
  have hbb : (ScopeKind.function != ScopeKind.function) = false := rfl
  rw [hbb]
  split at h
  · next c1 => cases h; exact if_pos c1
  · next c1 =>
    refine (if_neg c1).trans ?_
    split at h
    · next c2 => cases h; exact if_pos c2
    · next c2 =>
      refine (if_neg c2).trans ?_
      split at h
      · next c3 => cases h; exact if_pos c3
      · next c3 =>
        refine (if_neg c3).trans ?_
        split at h
        · next c4 => cases h; exact if_pos c4
        · next c4 =>
          refine (if_neg c4).trans ?_
          split at h
          · cases h
          · next c5 =>
            cases h
            exact if_neg c5
theorem swN_ok {env : PySem.Env} {sc : Scope} (hs : env.scope = sc) (hk : sc.kind = .function) {tg value : Expr} {r : Option (List Str)} (h : swN sc tg value = some r) : swappedStores [tg] value env = pure r := by
  subst hs
  unfold swN at h
  split at h
  · exact swT_ok hk h
  · cases h
  · next h1 h2 =>
    cases h
    cases tg with
    | Tuple ts k p => cases value with
      | Tuple vs k2 p2 => exact absurd rfl (h1 _ _ _ _ _ _ rfl)
      | _ => rfl
    | List ts p => cases value with
      | Tuple vs k2 p2 => exact absurd rfl (h2 _ _ _ _ _ rfl)
      | _ => rfl
    | _ => rfl

def notLc : Expr → Bool
  | .ListComp .. => false
  | _ => true
def noDeb (m : Str) : Bool := !(m == ("__debug__" : Str)) && !(m == ("__classdict__" : Str))
/-- a comprehension whose list is stored at once -/
def atOnce (x : Str) (xp : Pos) : Expr → Bool
  | .ListComp _ _ s p => (xp.line == p.line) && !(s.names.any fun q => q.1 == x && (q.2 == .local || q.2 == .cell))
  | _ => false
def stoL (c : Ct) : List Expr → Option (List Nat)
  | [] => some []
  | .Name x _ :: r => do return (← c.sto x) :: (← stoL c r)
  | _ => none
def clN (c : Ct) : Option Str → Option (Option Nat)
  | none => some none
  | some m => match c.N.idxOf? m with
    | some i => if c.N[i]? = some m ∧ c.sc.names.lookup m = some .local ∧ noDeb m = true then some (some i) else none
    | none => none
def suiC (c : Ct) (on : Option Str) (oi : Option Nat) : Ct := { c with hot := true, ex := match on, oi with
  | some m, some i => some (i, m)
  | _, _ => none }
mutual
def compS : Nat → Ct → Stmt → Option Sx
  | 0, _, _ => none
  | k + 1, c, st => match st with
    | .Pass _ => some .pas
    | .Break _ => some .brk
    | .Continue _ => some .cnt
    | .Return none _ => some (.ret none)
    | .Return (some e) _ => do return .ret (some (← compE k c e))
    | .Expr (.Constant (.str _) _ _) _ => some .pas
    | .Expr e _ => if isComp e = false then (do return .expr (← compE k c e)) else none
    | .Assign [.Name x xp] e _ => if c.sc.kind = .function then (match c.sto x with
      | none => none
      | some j => if isComp e = true ∧ (c.hot = true ∨ notLc e = true) then none else do return .asg (.var j) (← compE k c e)) else none
    | .Assign [.Tuple ts p q] e _ => if c.hot = false ∧ isComp e = false ∧ c.sc.kind = .function then (match swN c.sc (.Tuple ts p q) e, stoL c ts with
      | some none, some is => do return .asg (.tup is) (← compE k c e)
      | some (some ns), some is => if is.Nodup then (match e with
        | .Tuple es _ _ => if is.length = es.length then do return .asg (.tup is) (.tup (← compL' k c es)) else none
        | _ => none) else none
      | _, _ => none) else none
    | .Assign [.Subscript o i _] e _ => if isComp e = false ∧ isSlc i = false then (do return .asg (.sub (← compE k c o) (← compE k c i)) (← compE k c e)) else none
    | .Assign [.Attribute o f _] e _ => if c.hot = false ∧ isComp e = false then (do return .asg (.att (← compE k c o) f) (← compE k c e)) else none
    | .AugAssign (.Name x _) .Add e _ => do return .aug (← c.sto x) .Add (← compE k c e)
    | .If d a b _ => do return .ife (← compE k c d) (← compSs k c a) (← compSs k c b)
    | .For (.Name y _) it b [] _ => if c.hot = false ∧ isSet it = false then (do
        let i ← c.sto y
        let q ← compI k c it
        return .forE i q.1 q.2 (← compSs k c b)) else none
    | .While (.Compare (.NamedExpr (.Name x _) e _) [.IsNot] [.Constant .none _ _] _) b [] _ => if c.hot = false ∧ c.sc.names.lookup x = some .local then do return .wlw (← c.sto x) (← compE k c e) (← compSs k c b) else none
    | .While d b [] _ => do return .whl (← compE k c d) (← compSs k c b)
    | .Raise (some (.Call (.Name C _) (e :: es) [] _)) none _ => if c.hot = false ∧ c.glob C = true then (match c.T.exf.lookup C with
      | some (f :: fs) => do return .raise C (← compL' k c (e :: es))
      | _ => none) else none
    | .Try b (h :: hs) [] [] _ => if c.hot = false then (do
        let b' ← compSs k c b
        let q ← compH k c (h :: hs)
        return .tryE b' q.1 q.2) else none
    | _ => none
def compSs : Nat → Ct → List Stmt → Option (List Sx)
  | 0, _, _ => none
  | k + 1, c, ss => match ss with
    | [] => some []
    | s :: r => do return (← compS k c s) :: (← compSs k c r)
def compH : Nat → Ct → List ExceptHandler → Option (List (Str × Option Nat) × List (List Sx))
  | 0, _, _ => none
  | k + 1, c, hs => match hs with
    | [] => some ([], [])
    | .ExceptHandler (some (.Name C _)) on (st :: rest) _ :: r => if c.T.errs.contains C = true ∧ c.glob C = true then (do
        let oi ← clN c on
        let b ← compSs k (suiC c on oi) (st :: rest)
        let q ← compH k c r
        return ((C, oi) :: q.1, b :: q.2)) else none
    | _ => none
end
end Mir
set_option Elab.async false
set_option linter.all false
set_option maxRecDepth 100000
set_option maxHeartbeats 4000000
/-! MCompSOk: statements, the whole induction. -/
namespace Mir
open PySem L2
structure OkS (n : Nat) (c : Ct) (cur : Option Exn) (X : Cx) (Wx : WL) : Prop extends Okx n c cur X Wx where
  stk : X.stack = X.env :: X.outer
  fra : X.env.frame = some X.env.locals
  pa : PassesOwn (model X.prog X.w) X.A X.env X.xe
  fn : ∀ x, X.fn x = true
section
variable {c : Calls} {cur : Option Exn}
theorem exe_asg (t : Tg) (e : Ex) : exe c cur (.asg t e) = fun S => bndX S (den c cur e S) fun v => bndX S (asgM c cur t v S) fun S' => ret (.nx S') := by funext S; conv => lhs; unfold exe
theorem asg_var (i : Nat) : asgM c cur (.var i) = fun v S => ret (S.set i (some v)) := by funext v S; unfold asgM; rfl
theorem asg_tup (is : List Nat) : asgM c cur (.tup is) = fun v S => bnd (itemsT v) fun xs => if xs.length = is.length then ret (setAll S is xs) else stuck := by funext v S; unfold asgM; rfl
theorem asg_sub (o i : Ex) : asgM c cur (.sub o i) = fun v S => bnd (den c cur o S) fun p => bnd (den c cur i S) fun k => bnd (setM p k v) fun _ => ret S := by funext v S; conv => lhs; unfold asgM
theorem asg_att (o : Ex) (f : Str) : asgM c cur (.att o f) = fun v S => bnd (den c cur o S) fun p => bnd (attS c f p v) fun _ => ret S := by funext v S; conv => lhs; unfold asgM
theorem exe_aug (i : Nat) (op : Operator) (e : Ex) : exe c cur (.aug i op e) = fun S => match S[i]? with
      | some (some v) => bndX S (den c cur e S) fun u => bndX S (augM op v u) fun z => ret (.nx (S.set i (some z)))
      | _ => stuck := by
  funext S
  conv => lhs; unfold exe
  all_goals rfl
theorem exe_expr (e : Ex) : exe c cur (.expr e) = fun S => bndX S (den c cur e S) fun _ => ret (.nx S) := by funext S; conv => lhs; unfold exe
theorem exe_retN : exe c cur (.ret none) = fun _ => ret (.rt .non) := by funext S; conv => lhs; unfold exe
theorem exe_ret (e : Ex) : exe c cur (.ret (some e)) = fun S => bndX S (den c cur e S) fun v => ret (.rt v) := by funext S; conv => lhs; unfold exe
theorem exe_ife (d : Ex) (a b : List Sx) : exe c cur (.ife d a b) = fun S => bndX S (bnd (den c cur d S) truM) fun t => if t = true then exeL c cur a S else exeL c cur b S := by funext S; conv => lhs; unfold exe
theorem exe_for (i : Nat) (rng : Bool) (it : Ex) (b : List Sx) : exe c cur (.forE i rng it b) = fun S => bndX S (bnd (den c cur it S) fun v => if rng = true then rngM v else itmM v) fun I => forL I (fun x S => exeL c cur b (S.set i (some x))) I.len 0 S := by funext S; conv => lhs; unfold exe
theorem exe_whl (d : Ex) (b : List Sx) : exe c cur (.whl d b) = fun S => whlL (fun S => bnd (den c cur d S) truM) (fun S => exeL c cur b S) whileN S := by funext S; conv => lhs; unfold exe
theorem exe_wlw (i : Nat) (e : Ex) (b : List Sx) : exe c cur (.wlw i e b) = fun S => wlwL (fun S => den c cur e S) i (fun S => exeL c cur b S) whileN S := by funext S; conv => lhs; unfold exe
theorem exe_raise (C : Str) (es : List Ex) : exe c cur (.raise C es) = fun S => bndX S (denL c cur es S) fun vs => if vs.length = (c.exf C).length then ret (.ex ⟨C, ((c.exf C).zip vs).reverse⟩ S) else stuck := by funext S; conv => lhs; unfold exe
theorem exe_try (b : List Sx) (cs : List (Str × Option Nat)) (bs : List (List Sx)) : exe c cur (.tryE b cs bs) = fun S w => match exeL c cur b S w with
    | .ok (.ex e S') w' => exeH c cs bs e S' w'
    | r => r := by
  funext S
  conv => lhs; unfold exe
  all_goals rfl
theorem exe_brk : exe c cur .brk = fun S => ret (.bk S) := by funext S; conv => lhs; unfold exe
theorem exe_cnt : exe c cur .cnt = fun S => ret (.ct S) := by funext S; conv => lhs; unfold exe
theorem exe_pas : exe c cur .pas = fun S => ret (.nx S) := by funext S; conv => lhs; unfold exe
theorem exeL_nil : exeL c cur [] = fun S => ret (.nx S) := by funext S; conv => lhs; unfold exeL
theorem exeL_cons (s : Sx) (r : List Sx) : exeL c cur (s :: r) = fun S w => match exe c cur s S w with
    | .ok (.nx S') w' => exeL c cur r S' w'
    | x => x := by
  funext S
  conv => lhs; unfold exeL
  all_goals rfl
end
section
variable {n : Nat} {c : Ct} {cur : Option Exn} {X : Cx} {Wx : WL}
theorem swp_no {e : Expr} {t : Option Expr} {line : Nat} {env : PySem.Env} (h : isComp e = false) : swapsWith e t line env = pure false := by
  cases e <;> first | rfl | cases h
theorem swp_at {e : Expr} {x : Str} {xp : Pos} {line : Nat} {env : PySem.Env} (h : notLc e = false) (hk : env.scope.kind = .function) (hl : env.scope.names.lookup x = some .local) :
    swapsWith e (some (.Name x xp)) line env = pure (atOnce x xp e) := by
  cases e with
  | ListComp elt gens s p =>
    have hb : (env.blockKind == ScopeKind.function) = true := by unfold PySem.Env.blockKind; rw [hk]; rfl
    have hl' : (env.kindOf x == some NameKind.local) = true := by
      have : env.kindOf x = some NameKind.local := hl
      rw [this]; rfl
    show (pure (env.blockKind == .function && env.kindOf x == some .local && xp.line == p.line && !(s.names.any fun q => q.1 == x && (q.2 == .local || q.2 == .cell))) : Sem Bool) = pure ((xp.line == p.line) && !(s.names.any fun q => q.1 == x && (q.2 == .local || q.2 == .cell)))
    rw [hb, hl']
    rfl
  | _ => cases h
theorem swp_cell {e : Expr} {x : Str} {xp : Pos} {line : Nat} {env : PySem.Env} (h : notLc e = false) (hl : env.scope.names.lookup x = some .cell) :
    swapsWith e (some (.Name x xp)) line env = pure false := by
  cases e with
  | ListComp elt gens s p =>
    have hl' : (env.kindOf x == some NameKind.local) = false := by
      have : env.kindOf x = some NameKind.cell := hl
      rw [this]; rfl
    show (pure (env.blockKind == .function && env.kindOf x == some .local && xp.line == p.line && !(s.names.any fun q => q.1 == x && (q.2 == .local || q.2 == .cell))) : Sem Bool) = pure false
    rw [hl', Bool.and_false, Bool.false_and, Bool.false_and]
  | _ => cases h
theorem OkS.tr (o : OkS n c cur X Wx) (h : c.hot = false) {W : WX} {pn : List (Addr × Obj)} {xe : Value → Shared → Prop} (tk : Takes (X.tr pn xe) W) (pa : PassesOwn (model X.prog X.w) X.A X.env xe) : OkS n c cur (X.tr pn xe) ⟨W, none⟩ := by
  obtain ⟨sd, he⟩ := o.cold h
  exact ⟨⟨o.N, o.sc, o.nd, o.free, o.txt, fun _ => ⟨⟨sd.nd, sd.room, sd.calm, sd.sys, tk, sd.free, sd.txt⟩, he⟩, fun i m hx => (by rw [he] at hx; cases hx), True.intro⟩, o.stk, o.fra, pa, o.fn⟩
theorem OkS.sui (o : OkS n c cur X Wx) (h : c.hot = false) {on : Option Str} {oi : Option Nat} (ho : clN c on = some oi) {a : Addr} {oe : Obj} {d : Addr} {pn : List (Addr × Obj)} {ex : Exn} (hz : Zc (.ref (He.ga X.K ex.cls)) (some d) oe) (hf : ∃ vs, oe.data = .fields vs) :
    OkS n (suiC c on oi) (cuO oi ex) (X.suite a ((a, oe) :: pn)) ⟨fun _ _ _ _ => False, lkO X.K oi a ex d⟩ := by
  refine ⟨⟨o.N, o.sc, o.nd, o.free, o.txt, fun z => (by cases z), fun i m hx => ?_, ?_⟩, o.stk, o.fra, PassesOwn.never, o.fn⟩
  · unfold clN at ho
    split at ho
    · cases ho; cases hx
    · next m' =>
      split at ho
      · split at ho
        · next j _ hc =>
          cases ho
          have hx' : some (j, m') = some (i, m) := hx
          cases hx'
          have hd : noDeb m = true := hc.2.2
          unfold noDeb at hd
          obtain ⟨d1, d2⟩ := Bool.and_eq_true_iff.mp hd
          exact ⟨X, a, oe, pn, d, ex, rfl, hz, hf, rfl, rfl, hc.1, hc.2.1, by simpa using d1, by simpa using d2⟩
        · cases ho
      · cases ho
  · unfold clN at ho
    split at ho
    · cases ho; exact True.intro
    · next m' =>
      split at ho
      · split at ho
        · cases ho; rfl
        · cases ho
      · cases ho
theorem clN_nam (o : OkS n c cur X Wx) {on : Option Str} {oi : Option Nat} (ho : clN c on = some oi) : NamO X on oi := by
  unfold clN at ho
  split at ho
  · cases ho; exact .no
  · split at ho
    · split at ho
      · next hc =>
        cases ho
        refine .yes (by rw [o.N]; exact hc.1) ?_
        show X.env.scope.names.lookup _ = _
        rw [o.sc]
        exact hc.2.1
      · cases ho
    · cases ho
theorem stoL_ok (o : OkS n c cur X Wx) : ∀ {ts : List Expr} {is : List Nat}, stoL c ts = some is → Nms X Wx.e ts is := by
  intro ts
  induction ts with
  | nil => intro is h; cases h; exact .nil
  | cons a r ih =>
    intro is h
    unfold stoL at h
    split at h
    · rename_i e; cases e
    · rename_i e
      cases e
      obtain ⟨j, h1, h⟩ := Option.bind_eq_some_iff.mp h
      obtain ⟨l, h2, h⟩ := Option.bind_eq_some_iff.mp h
      cases h
      obtain ⟨q1, q2, q3⟩ := o.off h1
      exact .cons (pg_name o.nd q1 q2 (.inl (o.fn _))) rfl q3 (ih h2)
    · cases h
end
end Mir
set_option Elab.async false
set_option linter.all false
set_option maxRecDepth 100000
set_option maxHeartbeats 4000000
/-! MCompSOk2: statements, all of them. -/
namespace Mir
open PySem L2
structure AllS (n k : Nat) : Prop where
  s : ∀ c cur X Wx st ir, OkS n c cur X Wx → compS k c st = some ir → PS X st (tS X.K Wx (exe (c.cl n) cur ir))
  ss : ∀ c cur X Wx ss irs, OkS n c cur X Wx → compSs k c ss = some irs → PSs X ss (tS X.K Wx (exeL (c.cl n) cur irs))
  h : ∀ c cur X Wx hs q, OkS n c cur X Wx → c.hot = false → compH k c hs = some q → HdM c.T (c.cl n) X hs q.1 q.2
section
variable {n k : Nat}
theorem okSs (A : AllS n k) : ∀ c cur X Wx ss irs, OkS n c cur X Wx → compSs (k + 1) c ss = some irs → PSs X ss (tS X.K Wx (exeL (c.cl n) cur irs)) := by
  intro c cur X Wx ss irs o h
  unfold compSs at h
  split at h
  · cases h
    rw [exeL_nil]
    exact ss_nil
  · obtain ⟨i1, h1, h⟩ := Option.bind_eq_some_iff.mp h
    obtain ⟨i2, h2, h⟩ := Option.bind_eq_some_iff.mp h
    cases h
    rw [exeL_cons]
    exact ss_cons (A.s _ _ _ _ _ _ o h1) (A.ss _ _ _ _ _ _ o h2)
theorem okH (A : AllS n k) : ∀ c cur X Wx hs q, OkS n c cur X Wx → c.hot = false → compH (k + 1) c hs = some q → HdM c.T (c.cl n) X hs q.1 q.2 := by
  intro c cur X Wx hs q o hh h
  unfold compH at h
  split at h
  · cases h; exact .nil
  · next C np on st rest hp r =>
    split at h
    · next hc =>
      obtain ⟨oi, h1, h⟩ := Option.bind_eq_some_iff.mp h
      obtain ⟨b, h2, h⟩ := Option.bind_eq_some_iff.mp h
      obtain ⟨q', h3, h⟩ := Option.bind_eq_some_iff.mp h
      cases h
      obtain ⟨g1, g2⟩ := o.gl hc.2
      exact .cons hc.1 g1 g2 (clN_nam o h1) (fun a oe d pn ex hz hf => A.ss (suiC c on oi) (cuO oi ex) _ _ _ _ (o.sui hh h1 hz hf) h2) (A.h _ _ _ _ _ _ o hh h3)
    · cases h
  · cases h
theorem swpS_no {t e : Expr} {line : Nat} {env : PySem.Env} (h : isComp e = false) : swapsWithSole [t] e line env = pure false := by
  show swapsWith e (some t) line env = _
  exact swp_no h
theorem subA {o i : Expr} {pos : Pos} {env : PySem.Env} (h : isSlc i = false) (v : Value) : assign (.Subscript o i pos) env v = (do
      let ov ← holding [v] (eval o env)
      let iv ← holding [v, ov] (eval i env)
      standAt pos
      holding [v, ov, iv] (setItem ov iv v)
      release [v, ov, iv] []) := by
  cases i <;> first | rfl | cases h
/-- the names that swapped stores tell -/
theorem swT_names {sc : Scope} {ts vs : List Expr} {ns : List Str} (h : swT sc ts vs = some (some ns)) : (ts.length = 2 ∨ ts.length = 3) ∧ vs.length = ts.length ∧ ns.length = ts.length ∧ ns = ts.filterMap fun
      | .Name id pos => if (sc.names.lookup id == some .local && pos.line == (ts.head?.map (·.pos.line)).getD 0) = true then some id else none
      | _ => none := by
  unfold swT at h
  split at h
  · cases h
  · next c1 =>
    split at h
    · cases h
    · split at h
      · cases h
      · next c3 =>
        split at h
        · cases h
        · split at h
          · cases h
          · cases h
            simp only [Bool.or_false, Bool.or_eq_true, Bool.not_eq_true', bne_iff_ne, ne_eq, not_or, Decidable.not_not, Bool.not_eq_false] at c1 c3
            refine ⟨?_, c1.2, c3.1, rfl⟩
            have := c1.1
            simpa using this
theorem par_ok {c : Ct} {X : Cx} {Wx : WL} {cur : Option Exn} {ts es : List Expr} {is : List Nat} {ns : List Str} {p k2 : Nat} {q p2 pos : Pos} {fs : Env → M (List MV)} (o : OkS n c cur X Wx) (hcalm : X.calm = true) (his : stoL c ts = some is)
    (hsw : swN c.sc (.Tuple ts p q) (.Tuple es k2 p2) = some (some ns)) (hk : c.sc.kind = .function) (hnd : is.Nodup) (hlen : is.length = es.length) (hs : PA X es (tMs X.K Wx fs)) :
    PS X (.Assign [.Tuple ts p q] (.Tuple es k2 p2) pos) (tS X.K Wx fun S => bndX S (bnd (fs S) fun vs => if vs.length ≤ sizeLine then ret (.tup vs) else stuck) fun v => bndX S (bnd (itemsT v) fun xs => if xs.length = is.length then ret (setAll S is xs) else stuck) fun S' => ret (.nx S')) := by
  have hw := swN_ok o.sc hk hsw
  obtain ⟨n1, n2, n3, n4⟩ := swT_names (sc := c.sc) (ts := ts) (vs := es) hsw
  have sto1 : ∀ {a : Expr} {r : List Expr} {js : List Nat}, stoL c (a :: r) = some js → ∃ x xp j js', a = .Name x xp ∧ c.sto x = some j ∧ stoL c r = some js' ∧ js = j :: js' := by
    intro a r js h
    unfold stoL at h
    split at h
    · rename_i e; cases e
    · rename_i e
      cases e
      obtain ⟨j, h1, h⟩ := Option.bind_eq_some_iff.mp h
      obtain ⟨l, h2, h⟩ := Option.bind_eq_some_iff.mp h
      cases h
      exact ⟨_, _, j, l, rfl, h1, h2, rfl⟩
    · cases h
  have one : ∀ {x : Str} {xp : Pos} {r : List Expr} {G : Expr → Option Str}, ((G (.Name x xp) = some x ∧ c.sc.names.lookup x = some .local) ∨ G (.Name x xp) = none) → ((Expr.Name x xp :: r).filterMap G).length = r.length + 1 → (Expr.Name x xp :: r).filterMap G = x :: r.filterMap G ∧ (r.filterMap G).length = r.length ∧ c.sc.names.lookup x = some .local := by
    intro x xp r G hG hl
    rcases hG with ⟨e, hk⟩ | e
    · rw [List.filterMap_cons, e] at hl ⊢
      exact ⟨rfl, by simpa using hl, hk⟩
    · rw [List.filterMap_cons, e] at hl
      have := List.length_filterMap_le G r
      dsimp only at hl
      omega
  have ite1 : ∀ {b : Bool} {x : Str}, ((if (c.sc.names.lookup x == some NameKind.local && b) = true then some x else none) = some x ∧ c.sc.names.lookup x = some .local) ∨ (if (c.sc.names.lookup x == some NameKind.local && b) = true then some x else none) = none := by
    intro b x
    cases hb : (c.sc.names.lookup x == some NameKind.local && b)
    · exact .inr rfl
    · exact .inl ⟨rfl, eq_of_beq (Bool.and_eq_true_iff.mp hb).1⟩
  match ts, n1, n2, n3, n4, his, hw with
  | [t1, t2], _, n2, n3, n4, his, hw =>
    match es, n2, hs, hw with
    | [a, b], _, hs, hw =>
      obtain ⟨x, px, j, js, rfl, s1, hi1, rfl⟩ := sto1 his
      obtain ⟨y, py, l, js2, rfl, s2, hi2, rfl⟩ := sto1 hi1
      cases hi2
      obtain ⟨a1, a2, a3⟩ := o.off s1
      obtain ⟨b1, b2, b3⟩ := o.off s2
      rw [n4] at n3
      obtain ⟨e1, n3, l1⟩ := one ite1 n3
      obtain ⟨e2, n3, l2⟩ := one ite1 n3
      rw [e1, e2] at n4
      subst n4
      have hjl : j ≠ l := by
        have := (List.nodup_cons.mp hnd).1
        simpa using this
      exact ss_par2 hcalm o.nd a1 b1 hjl a3 b3 (by rw [o.sc]; exact l1) (by rw [o.sc]; exact l2) hs hw (swpS_no rfl)
  | [t1, t2, t3], _, n2, n3, n4, his, hw =>
    match es, n2, hs, hw with
    | [a, b, d], _, hs, hw =>
      obtain ⟨x, px, j, js, rfl, s1, hi1, rfl⟩ := sto1 his
      obtain ⟨y, py, l, js2, rfl, s2, hi2, rfl⟩ := sto1 hi1
      obtain ⟨z, pz, m, js3, rfl, s3, hi3, rfl⟩ := sto1 hi2
      cases hi3
      obtain ⟨a1, a2, a3⟩ := o.off s1
      obtain ⟨b1, b2, b3⟩ := o.off s2
      obtain ⟨d1, d2, d3⟩ := o.off s3
      rw [n4] at n3
      obtain ⟨e1, n3, l1⟩ := one ite1 n3
      obtain ⟨e2, n3, l2⟩ := one ite1 n3
      obtain ⟨e3, n3, l3⟩ := one ite1 n3
      rw [e1, e2, e3] at n4
      subst n4
      have hq := List.nodup_cons.mp hnd
      have hq2 := List.nodup_cons.mp hq.2
      have h12 : j ≠ l := fun z => hq.1 (by simp [z])
      have h13 : j ≠ m := fun z => hq.1 (by simp [z])
      have h23 : l ≠ m := fun z => hq2.1 (by simp [z])
      exact ss_par3 hcalm o.nd a1 b1 d1 h12 h13 h23 a3 b3 d3 (by rw [o.sc]; exact l1) (by rw [o.sc]; exact l2) (by rw [o.sc]; exact l3) hs hw (swpS_no rfl)
/-- name = e -/
theorem okAsgN (c : Ct) {cur : Option Exn} {X : Cx} {Wx : WL} {x : Str} {xp pos : Pos} {e : Expr} {j : Nat} {ie : Ex} (o : OkS n c cur X Wx) (hk : c.sc.kind = .function) (h1 : c.sto x = some j)
    (hc : ¬(isComp e = true ∧ (c.hot = true ∨ notLc e = true))) (h2 : compE k c e = some ie) :
    PS X (.Assign [.Name x xp] e pos) (tS X.K Wx (exe (c.cl n) cur (.asg (.var j) ie))) := by
  obtain ⟨q1, q2, q3⟩ := o.off h1
  have ge := (all_ok (n := n) k).e _ _ _ _ _ _ o.toOkx h2
  rw [exe_asg, asg_var]
  have usual : swapsWith e (some (.Name x xp)) pos.line X.env = pure false → PS X (.Assign [.Name x xp] e pos) (tS X.K Wx fun S => bndX S (den (c.cl n) cur ie S) fun v => bndX S (ret (S.set j (some v))) fun S' => ret (.nx S')) := fun hs =>
    ss_asg ge.1 (gt_var (pg_name o.nd q1 q2 (.inl (o.fn _))) q3) hs (by cases e <;> rfl) rfl
  by_cases hcm : isComp e = true
  · have hl : notLc e = false := by
      cases hm : notLc e with
      | false => rfl
      | true => exact absurd ⟨hcm, .inr hm⟩ hc
    have hot : c.hot = false := by
      cases hm : c.hot with
      | false => rfl
      | true => exact absurd ⟨hcm, .inl hm⟩ hc
    rcases q2 with q2 | q2
    case inr => exact usual (swp_cell hl q2)
    have hs := swp_at (x := x) (xp := xp) (line := pos.line) (env := X.env) hl (by rw [o.sc]; exact hk) q2
    cases ha : atOnce x xp e with
    | false =>
      rw [ha] at hs
      exact usual hs
    | true =>
      rw [ha] at hs
      obtain ⟨sd, he⟩ := o.cold hot
      cases k with
      | zero => cases h2
      | succ k =>
        unfold compE at h2
        split at h2
        case h_24 elt y yp iter ifs scope p =>
          rw [if_neg (by rw [hot]; exact Bool.false_ne_true)] at h2
          split at h2
          · cases h2
          · next i hi =>
            split at h2
            · next hc2 =>
              obtain ⟨hb, hx, hset⟩ := hc2
              obtain ⟨q, g1, h2⟩ := Option.bind_eq_some_iff.mp h2
              obtain ⟨ie2, g2, h2⟩ := Option.bind_eq_some_iff.mp h2
              obtain ⟨ic, g3, h2⟩ := Option.bind_eq_some_iff.mp h2
              cases h2
              have bk : BlkOk X.N X.env.scope scope [(y, i)] := by rw [o.N, o.sc]; exact blkOk_by hb
              have A := all_ok (n := n) k
              rw [den_comp]
              exact ss_asgLc sd.calm o.nd q3 q1 q2 hs (A.i _ _ _ _ _ q _ o.toOkx g1) bk
                (fun s H C cl fp => pg_name o.nd (bk.ix (y, i) List.mem_cons_self) (.inl (by show (relS scope X.env.scope).names.lookup y = _; rw [o.sc]; exact hx)) (.inr (by show (relS scope X.env.scope).names.lookup y = _; rw [o.sc]; exact hx)))
                (fun s H C cl fp => A.t (inSc c scope) _ _ _ _ _ (blk_ok o.toOkx hot scope s H C cl fp) g3)
                (fun s H C cl fp => (A.e (inSc c scope) _ _ _ _ _ (blk_ok o.toOkx hot scope s H C cl fp) g2).1)
                (set1 hset)
            · cases h2
        all_goals first | (cases hcm; done) | (cases hl; done) | (cases h2; done)
  · exact usual (swp_no (by simpa using hcm))
theorem okS (A : AllS n k) : ∀ c cur X Wx st ir, OkS n c cur X Wx → compS (k + 1) c st = some ir → PS X st (tS X.K Wx (exe (c.cl n) cur ir)) := by
  intro c cur X Wx st ir o h
  have E := all_ok (n := n) k
  unfold compS at h
  split at h
  · cases h; rw [exe_pas]; exact ss_pass
  · cases h; rw [exe_brk]; exact ss_brk
  · cases h; rw [exe_cnt]; exact ss_cnt
  · cases h; rw [exe_retN]; exact ss_retN
  · obtain ⟨ie, h1, h⟩ := Option.bind_eq_some_iff.mp h
    cases h
    rw [exe_ret]
    exact ss_ret (E.e _ _ _ _ _ _ o.toOkx h1).1
  · cases h; rw [exe_pas]; exact ss_doc
  · -- e
    split at h
    · next hc =>
      obtain ⟨ie, h1, h⟩ := Option.bind_eq_some_iff.mp h
      cases h
      rw [exe_expr]
      exact ss_expr (E.e _ _ _ _ _ _ o.toOkx h1).1 (swp_no hc)
    · cases h
  · -- x = e
    split at h
    · next hk =>
      split at h
      · cases h
      · next j hj =>
        split at h
        · cases h
        · next hc =>
          obtain ⟨ie, h1, h⟩ := Option.bind_eq_some_iff.mp h
          cases h
          exact okAsgN c o hk hj hc h1
    · cases h
  · -- a, b = e
    next ts p q e pos =>
    split at h
    · next hc =>
      obtain ⟨hot, hcm, hk⟩ := hc
      obtain ⟨sd, he⟩ := o.cold hot
      split at h
      · next is hsw his =>
        obtain ⟨ie, h1, h⟩ := Option.bind_eq_some_iff.mp h
        cases h
        rw [exe_asg, asg_tup]
        exact ss_asg (E.e _ _ _ _ _ _ o.toOkx h1).1 (gt_tup sd.calm (stoL_ok o his)) (swpS_no hcm) (swN_ok o.sc hk hsw) rfl
      · next ns is hsw his =>
        split at h
        · next hnd =>
          split at h
          · next es k2 p2 =>
            split at h
            · next hlen =>
              obtain ⟨irs, h1, h⟩ := Option.bind_eq_some_iff.mp h
              cases h
              have gl := E.l _ _ _ _ _ _ o.toOkx h1
              rw [exe_asg, asg_tup, den_tup]
              exact par_ok o sd.calm his hsw hk hnd hlen gl.pa
            · cases h
          · cases h
        · cases h
      · cases h
    · cases h
  · -- o[i] = e
    split at h
    · next hc =>
      obtain ⟨io, h1, h⟩ := Option.bind_eq_some_iff.mp h
      obtain ⟨ii, h2, h⟩ := Option.bind_eq_some_iff.mp h
      obtain ⟨ie, h3, h⟩ := Option.bind_eq_some_iff.mp h
      cases h
      rw [exe_asg, asg_sub]
      exact ss_asg (E.e _ _ _ _ _ _ o.toOkx h3).1 (gt_sub (E.e _ _ _ _ _ _ o.toOkx h1).1 (E.e _ _ _ _ _ _ o.toOkx h2).1 (subA hc.2)) (swpS_no hc.1) rfl rfl
    · cases h
  · -- o.f = e
    split at h
    · next hc =>
      obtain ⟨io, h1, h⟩ := Option.bind_eq_some_iff.mp h
      obtain ⟨ie, h3, h⟩ := Option.bind_eq_some_iff.mp h
      cases h
      rw [exe_asg, asg_att]
      exact ss_att (o.cold hc.1).1 (E.e _ _ _ _ _ _ o.toOkx h3).1 (E.e _ _ _ _ _ _ o.toOkx h1).1 (swp_no hc.2)
    · cases h
  · -- x += e
    obtain ⟨j, h1, h⟩ := Option.bind_eq_some_iff.mp h
    obtain ⟨ie, h2, h⟩ := Option.bind_eq_some_iff.mp h
    cases h
    obtain ⟨q1, q2, q3⟩ := o.off h1
    rw [exe_aug]
    exact ss_augAdd q3 o.nd q1 q2 (.inl (o.fn _)) (E.e _ _ _ _ _ _ o.toOkx h2).1
  · -- if
    obtain ⟨i1, h1, h⟩ := Option.bind_eq_some_iff.mp h
    obtain ⟨i2, h2, h⟩ := Option.bind_eq_some_iff.mp h
    obtain ⟨i3, h3, h⟩ := Option.bind_eq_some_iff.mp h
    cases h
    rw [exe_ife]
    exact ss_if (E.e _ _ _ _ _ _ o.toOkx h1).2.1 (A.ss _ _ _ _ _ _ o h2) (A.ss _ _ _ _ _ _ o h3)
  · -- for
    split at h
    · next hc =>
      obtain ⟨i, h1, h⟩ := Option.bind_eq_some_iff.mp h
      obtain ⟨q, h2, h⟩ := Option.bind_eq_some_iff.mp h
      obtain ⟨b, h3, h⟩ := Option.bind_eq_some_iff.mp h
      cases h
      obtain ⟨q1, q2, q3⟩ := o.off h1
      obtain ⟨sd, he⟩ := o.cold hc.1
      rw [exe_for]
      exact ss_for q3 o.pa sd.calm (E.i _ _ _ _ _ q _ o.toOkx h2) (pg_name o.nd q1 q2 (.inl (o.fn _))) (A.ss _ _ _ _ _ _ o h3) (set1 hc.2)
    · cases h
  · -- while (x := e) is not None
    split at h
    · next hc =>
      obtain ⟨i, h1, h⟩ := Option.bind_eq_some_iff.mp h
      obtain ⟨q, h2, h⟩ := Option.bind_eq_some_iff.mp h
      obtain ⟨b, h3, h⟩ := Option.bind_eq_some_iff.mp h
      cases h
      obtain ⟨q1, q2, q3⟩ := o.off h1
      rw [exe_wlw]
      exact ss_wlw o.pa o.nd q1 q2 (by rw [o.sc]; exact hc.2) q3 (E.e _ _ _ _ _ _ o.toOkx h2).1 (A.ss _ _ _ _ _ _ o h3)
    · cases h
  · -- while
    obtain ⟨i1, h1, h⟩ := Option.bind_eq_some_iff.mp h
    obtain ⟨i2, h2, h⟩ := Option.bind_eq_some_iff.mp h
    cases h
    rw [exe_whl]
    exact ss_whl o.pa (E.e _ _ _ _ _ _ o.toOkx h1).2.1 (A.ss _ _ _ _ _ _ o h2)
  · -- raise
    next C p0 e es p1 p2 =>
    split at h
    · next hc =>
      split at h
      · next f fs hf =>
        obtain ⟨irs, h1, h⟩ := Option.bind_eq_some_iff.mp h
        cases h
        have gl := E.l _ _ _ _ _ _ o.toOkx h1
        obtain ⟨sd, he⟩ := o.cold hc.1
        obtain ⟨g1, g2⟩ := o.toOkx.gl hc.2
        obtain ⟨m1, G⟩ := o.txt.exn _ _ hf (by simp)
        rw [exe_raise]
        have ee : (c.cl n).exf C = f :: fs := by
          show (c.T.exf.lookup C).getD [] = _
          rw [hf]
          rfl
        rw [ee]
        exact ss_raise sd.calm sd.tk (sd.room.mono (by omega)) G g1 m1 g2 (star1 (gl.st _ List.mem_cons_self)) (stars_any fun y hy => gl.st y (List.mem_cons_of_mem _ hy)) gl.pa
      · cases h
    · cases h
  · -- try
    split at h
    · next hc =>
      obtain ⟨b, h1, h⟩ := Option.bind_eq_some_iff.mp h
      obtain ⟨q, h2, h⟩ := Option.bind_eq_some_iff.mp h
      cases h
      obtain ⟨sd, he⟩ := o.cold hc
      have h0 : Wx.e = none := by
        have l := o.lk
        cases e : Wx.e with
        | none => rfl
        | some z =>
          rw [e, he] at l
          cases l
      rw [exe_try]
      exact ss_try o.stk o.fra o.nd sd.tk h0 o.txt (fun W pn xe tk pa => A.ss _ _ _ _ _ _ (o.tr hc tk pa) h1) (A.h _ _ _ _ _ _ o hc h2)
    · cases h
  · cases h
theorem all_okS : ∀ k, AllS n k
  | 0 => ⟨fun _ _ _ _ _ _ _ h => (by cases h), fun _ _ _ _ _ _ _ h => (by cases h), fun _ _ _ _ _ _ _ _ h => (by cases h)⟩
  | k + 1 => ⟨okS (all_okS k), okSs (all_okS k), okH (all_okS k)⟩
end
end Mir
set_option Elab.async false
set_option linter.all false
set_option maxRecDepth 100000
set_option maxHeartbeats 4000000
/-! MLevel: all defs of a text, level by level. -/
namespace Mir
open PySem L2
def fuelC : Nat := 400
abbrev ctOf (T : Prog) (N : List Str) (scope : Scope) : Ct := ⟨T, N, scope, false, none⟩
/-- a def of the text at a, brought into the mirror's form -/
def DefC (T : Prog) (K : PySem.W.Frag) (a : Addr) (d : FDef) : Prop :=
  ∃ x qual body scope fd, DefAt K a x qual body scope d.ps d.dfl fd ∧ FnScope d.N d.ps scope ∧ compSs fuelC (ctOf T d.N scope) body = some d.body
/-- what a head tells of the text -/
structure Hd (T : Prog) (P : Program) (w : World) (K : PySem.W.Frag) (mg : Str → Option Value) (base : Heap) : Prop where
  glo : ∀ x d, T.fns.lookup (x, none) = some d → mg x = some (.ref (He.ga K x)) ∧ DefC T K (He.ga K x) d
  cls : ∀ C, T.clss.contains C = true → Cls K (He.ga K C) ∧ mg C = some (.ref (He.ga K C)) ∧ Mk K (He.ga K C) (He.ma K (He.ga K C) "__init__")
  mth : ∀ C m d, T.clss.contains C = true → T.props.contains (C, m) = false → T.fns.lookup (C, some m) = some d → Meth K (He.ga K C) m (He.ma K (He.ga K C) m) ∧ DefC T K (He.ma K (He.ga K C) m) d
  prp : ∀ C f d, T.clss.contains C = true → T.props.contains (C, f) = true → T.fns.lookup (C, some f) = some d → ∃ p g, PropOf K (He.ga K C) f p g ∧ DefC T K g d
  exn : ∀ C fs, T.exf.lookup C = some fs → fs ≠ [] → mg C = some (.ref (He.ga K C)) ∧ GErr 2 P w K mg base (He.ga K C) fs
  err : ∀ C, T.errs.contains C = true → mg C = some (.ref (He.ga K C)) ∧ (PySem.W.subIn K (.ref (He.ga K C)) (.type "BaseException") = some true)
  sub : ∀ C fs D, T.exf.lookup C = some fs → fs ≠ [] → T.errs.contains D = true → PySem.W.exmOne K (.ref (He.ga K C)) (.ref (He.ga K D)) = some (C == D || T.subs.contains (C, D)) ∧ PySem.W.kitOne K (.ref (He.ga K C)) (.ref (He.ga K D)) = some (C == D || T.subs.contains (C, D))
  fld : ∀ C f, T.clss.contains C = true → T.flds.contains (C, f) = true → NoAttr K (He.ga K C) f
  glb : ∀ x v, T.glb.lookup x = some v → ∃ u xv, mg x = some u ∧ RelV xv u ∧ ∀ ρ H, RelM ρ K H v xv
  free : ∀ x ∈ freeNames, mg x = none
  sys : ∃ o, K.lookup sysModules = some o ∧ o.cls = .type "dict"
section
variable {T : Prog} {P : Program} {w : World} {K : PySem.W.Frag} {mg : Str → Option Value} {base : Heap}
def Lev (T : Prog) (P : Program) (w : World) (K : PySem.W.Frag) (mg : Str → Option Value) (base : Heap) (m : Nat) : Prop :=
  ∀ a d x qual body scope fd, DefAt K a x qual body scope d.ps d.dfl fd → FnScope d.N d.ps scope → compSs fuelC (ctOf T d.N scope) body = some d.body → FnG P w K mg base (2 * m + 4) a fd d.ps (spM K d.ps.length (runD (T.calls (callF T m)) d))
theorem DefC.g {a : Addr} {d : FDef} {n : Nat} (h : DefC T K a d) (L : ∀ m, n = m + 1 → Lev T P w K mg base m) : GOk T n P w K mg base a d := by
  obtain ⟨x, qual, body, scope, fd, h1, h2, h3⟩ := h
  exact ⟨x, qual, body, scope, fd, h1, fun m hm => L m hm a d x qual body scope fd h1 h2 h3⟩
theorem Hd.txt (D : Hd T P w K mg base) {n : Nat} (L : ∀ m, n = m + 1 → Lev T P w K mg base m) : Txt T n P w K mg base where
  glo := fun x d h => ⟨(D.glo x d h).1, (D.glo x d h).2.g L⟩
  cls := D.cls
  mth := fun C m d a b c => ⟨(D.mth C m d a b c).1, (D.mth C m d a b c).2.g L⟩
  prp := fun C f d a b c => let ⟨p, g, h1, h2⟩ := D.prp C f d a b c; ⟨p, g, h1, h2.g L⟩
  exn := D.exn
  err := D.err
  sub := D.sub
  fld := D.fld
  glb := D.glb
theorem relS_start {ρ : List Addr} {H : Hp} {N : List Str} {vs : List MV} {xs : List V} (r : RelMs ρ K H vs xs) : RelS none ρ K H (startS N vs) (L2.start N xs) := by
  have hl := r.length
  unfold startS L2.start
  refine ⟨by simp [hl], fun i v h => ?_, True.intro⟩
  by_cases hi : i < vs.length
  · rw [List.getElem?_append_left (by simpa using hi)] at h
    rw [List.getElem?_append_left (by simpa [← hl] using hi)]
    rw [List.getElem?_map] at h ⊢
    obtain ⟨u, hu, hv⟩ := Option.map_eq_some_iff.mp h
    cases hv
    obtain ⟨z, hz, rz⟩ := r.get hu
    exact ⟨z, by rw [hz]; rfl, rz⟩
  · rw [List.getElem?_append_right (by simpa using hi)] at h
    obtain ⟨_, hz⟩ := List.getElem?_eq_some_iff.mp h
    simp at hz
theorem lev_of (D : Hd T P w K mg base) {n : Nat} (L : ∀ m, n = m + 1 → Lev T P w K mg base m) : Lev T P w K mg base n := by
    intro a d x qual body scope fd h1 h2 h3
    obtain ⟨as, ds, dvs, e1, e2, FD⟩ := h1.ex
    refine FnG.of FD h2 fun cdv A fr s H xs Q E hr hx hq => ?_
    obtain ⟨ρ, W, args, hlen, S, rm, p⟩ := hq
    have o : OkS n (ctOf T d.N scope) none (cxOf (L2.CX P w) P w K mg base d.N qual scope a cdv A fr s H E) ⟨fun cls d' _ H' => E cls d' H', none⟩ := by
      refine ⟨⟨rfl, rfl, h2.nd, D.free, D.txt L, fun _ => ⟨⟨h2.nd, hr, rfl, D.sys, ?_, D.free, D.txt L⟩, rfl⟩, fun i m hx => (by cases hx), True.intro⟩, rfl, rfl, ?_, fun _ => rfl⟩
      · exact takes_of rfl rfl rfl rfl
      · exact passes_of rfl
    refine ⟨_, (all_okS (n := n) fuelC).ss _ _ _ _ _ _ o h3, ρ, startS d.N args, W, relS_start rm, S, ?_⟩
    unfold runD at p
    cases e : exeL (T.calls (callF T n)) none d.body (startS d.N args) W with
    | err z w' => rw [e] at p; exact p.elim
    | bad => rw [e] at p; exact p.elim
    | ok fl w' =>
      rw [e] at p
      cases fl with
      | nx S' => exact fun ρ' H' σ' u s' r' => p ρ' H' .non u s' (by unfold RelM; rfl)
      | rt v => exact p
      | ex z S' => exact fun ρ' H' σ' cls d' u s' r' ex => p ρ' H' cls d' u s' ex
      | bk S' => exact p.elim
      | ct S' => exact p.elim
theorem level (D : Hd T P w K mg base) : ∀ m, Lev T P w K mg base m
  | 0 => lev_of D fun m hm => by omega
  | m + 1 => lev_of D fun m' hm => by
    have e : m' = m := by omega
    rw [e]
    exact level D m
end
end Mir
set_option Elab.async false
set_option linter.all false
set_option maxRecDepth 100000
set_option maxHeartbeats 4000000
/-! MHead: what a head tells of a text, as one Bool over the part of the heap that its names reach. -/
namespace Mir
open PySem L2
open PySem.W (Frag findIn specialIn takesIn recIn typeIn subIn readsIn findCls keepIn hasDictIn mroIn exmOne kitOne)
section
variable {K : Frag} {C : Addr}
def gtr (K : Frag) (C : Addr) (f : Str) : Addr := match recIn K (He.ma K C f) "property" with
  | some (.ref g :: _) => g
  | _ => 0
def prpB (K : Frag) (C : Addr) (f : Str) : Bool := decide (findIn K (.ref C) f = some (some (.ref (He.ma K C f)))) && (decide (specialIn K (.ref (He.ma K C f)) "__get__" = some (some (.builtin "property.__get__"))) && (decide (takesIn K (.ref (He.ma K C f)) = some true) &&
  (match recIn K (He.ma K C f) "property" with
  | some (.ref _ :: _) => true
  | _ => false)))
theorem prpB_ok {f : Str} (h : prpB K C f = true) : PropOf K C f (He.ma K C f) (gtr K C f) := by
  obtain ⟨h1, h⟩ := He.ba h
  obtain ⟨h2, h⟩ := He.ba h
  obtain ⟨h3, h4⟩ := He.ba h
  refine ⟨of_decide_eq_true h1, of_decide_eq_true h2, of_decide_eq_true h3, ?_⟩
  unfold gtr
  split at h4
  · next g r e => exact ⟨r, by rw [e]⟩
  · cases h4
def inhB (K : Frag) (U : Addr) : Bool := readsIn K U (.type "type") && ((match findCls K (.ref U) (.type "type") "__init__" with
  | some (.val (.builtin g)) => decide (g = "ValueError.__init__")
  | _ => false) && decide (specialIn K (.ref U) "__getattribute__" = some (some (.builtin "type.__getattribute__"))))
theorem inhB_ok (h : inhB K C = true) : InhI K C := by
  obtain ⟨h1, h⟩ := He.ba h
  obtain ⟨h2, h3⟩ := He.ba h
  refine ⟨⟨.type "type", h1, ?_⟩, of_decide_eq_true h3⟩
  split at h2
  · next g e =>
    rw [e, of_decide_eq_true h2]
  · cases h2
def oexB (K : Frag) (C : Addr) : Bool := (match K.lookup C with
  | some ⟨.type "type", _, .cls cd, sl⟩ => (match cd.mro, sl.toList with
    | .ref D :: bm, [_, _, _, _, some (.builtin n), _] => decide (D = C) && (decide (n = "ValueError.__new__") && (cd.hasDict && (!cd.hasDel && PySem.HandSPX.refsVE bm)))
    | _, _ => false)
  | _ => false) && (decide (findIn K (.ref C) "__setattr__" = some (some (.builtin "object.__setattr__"))) && (decide (subIn K (.ref C) (.type "BaseException") = some true) && (decide (typeIn K (.ref C) = some (.type "type")) && keepIn K (.ref C))))
theorem oexB_ok (h : oexB K C = true) : OexC K C := by
  obtain ⟨h1, h⟩ := He.ba h
  obtain ⟨h2, h⟩ := He.ba h
  obtain ⟨h3, h⟩ := He.ba h
  obtain ⟨h4, h5⟩ := He.ba h
  refine ⟨?_, of_decide_eq_true h2, of_decide_eq_true h3, of_decide_eq_true h4, h5⟩
  split at h1
  · next dd cd sl e =>
    split at h1
    · next D bm k0 k1 k2 k3 n k5 e1 e2 =>
      obtain ⟨g1, h1⟩ := He.ba h1
      obtain ⟨g2, h1⟩ := He.ba h1
      obtain ⟨g3, h1⟩ := He.ba h1
      obtain ⟨g4, g5⟩ := He.ba h1
      have g1 := of_decide_eq_true g1
      have g2 := of_decide_eq_true g2
      subst g1 g2
      obtain ⟨nm, bs, mro, ns, qn, hd, sn, sb, ab, col, del⟩ := cd
      dsimp only at e1 g3 g4
      subst e1 g3
      have g4' : del = false := by simpa using g4
      subst g4'
      refine ⟨nm, qn, ns, bs, bm, sn, sb, ab, col, dd, k0, k1, k2, k3, k5, ?_, g5⟩
      rw [e]
      have : sl = #[k0, k1, k2, k3, some (.builtin "ValueError.__new__"), k5] := by
        rw [← Array.toArray_toList (xs := sl), e2]
      rw [this]
    · cases h1
  · cases h1
def isxB (K : Frag) (D : Addr) : Bool := decide (findIn K (.ref D) "__getattribute__" = some (some (.builtin "BaseException.__getattribute__"))) && (decide (findIn K (.ref D) "__getattr__" = some none) && (decide (subIn K (.ref D) (.type "BaseException") = some true) && (hasDictIn K D &&
  (decide (findIn K (.ref D) "__class__" = some (some (.builtin "object.__class__"))) && (decide (specialIn K (.builtin "object.__class__") "__get__" = some (some (.builtin "getset_descriptor.__get__"))) && (decide (takesIn K (.builtin "object.__class__") = some true) && decide (mroIn K D (.type "object") = some true)))))))
theorem isxB_ok (h : isxB K C = true) : ExcC K C ∧ XfC K C := by
  obtain ⟨h1, h⟩ := He.ba h
  obtain ⟨h2, h⟩ := He.ba h
  obtain ⟨h3, h⟩ := He.ba h
  obtain ⟨h4, h⟩ := He.ba h
  obtain ⟨h5, h⟩ := He.ba h
  obtain ⟨h6, h⟩ := He.ba h
  obtain ⟨h7, h8⟩ := He.ba h
  exact ⟨⟨of_decide_eq_true h1, of_decide_eq_true h2, of_decide_eq_true h3, h4, of_decide_eq_true h5, of_decide_eq_true h6, of_decide_eq_true h7, of_decide_eq_true h8⟩, ⟨of_decide_eq_true h1, of_decide_eq_true h2, of_decide_eq_true h3, h4⟩⟩
def errB (K : Frag) (C : Addr) (fs : List Str) : Bool := oexB K C && (isxB K C && (decide (findIn K (.ref C) "__init__" = some (some (.ref (He.ma K C "__init__")))) && (decide (typeIn K (.ref (He.ma K C "__init__")) = some (.type "function")) && fs.all fun f => decide (findIn K (.ref C) f = some none))))
theorem errB_ok {fs : List Str} (h : errB K C fs = true) : ErrC K C fs := by
  obtain ⟨h1, h⟩ := He.ba h
  obtain ⟨h2, h⟩ := He.ba h
  obtain ⟨h3, h⟩ := He.ba h
  obtain ⟨h4, h5⟩ := He.ba h
  obtain ⟨i1, i2⟩ := isxB_ok h2
  exact ⟨oexB_ok h1, of_decide_eq_true h3, of_decide_eq_true h4, fun f hf => of_decide_eq_true (List.all_eq_true.mp h5 f hf), i2, i1⟩
end
/-! ### all facts -/
def sysB (K : Frag) : Bool := match K.lookup sysModules with
  | some o => decide (o.cls = .type "dict")
  | none => false
abbrev Ful : Type := (Fid × FDef)
def fnB (T : Prog) (K : Frag) (q : Ful) : Bool := match q.1.2 with
  | none => (He.Fa.glo q.1.1).ok K
  | some m => if T.clss.contains q.1.1 = true then (if T.props.contains (q.1.1, m) = true then prpB K (He.ga K q.1.1) m else (He.Fa.meth q.1.1 m).ok K) else false
def clsB (K : Frag) (C : Str) : Bool := (He.Fa.cls C).ok K && ((He.Fa.glo C).ok K && (He.Fa.mkr C).ok K)
def exnB (K : Frag) (q : Str × List Str) : Bool := (He.Fa.glo q.1).ok K && errB K (He.ga K q.1) q.2
def ersB (K : Frag) (C : Str) : Bool := (He.Fa.glo C).ok K && decide (subIn K (.ref (He.ga K C)) (.type "BaseException") = some true)
def subB (T : Prog) (K : Frag) (q : Str × List Str) (D : Str) : Bool := decide (exmOne K (.ref (He.ga K q.1)) (.ref (He.ga K D)) = some (q.1 == D || T.subs.contains (q.1, D))) && decide (kitOne K (.ref (He.ga K q.1)) (.ref (He.ga K D)) = some (q.1 == D || T.subs.contains (q.1, D)))
def glbB (K : Frag) (q : Str × MV) : Bool := match q.2 with
  | .int i => (He.Fa.int q.1 i).ok K
  | .str z => (He.Fa.str q.1 z).ok K
  | _ => false
def chkM (T : Prog) (U : Str) (K : Frag) : Bool := T.fns.all (fnB T K) && (T.clss.all (clsB K) && (T.exf.all (exnB K) && (T.errs.all (ersB K) && (T.exf.all (fun q => T.errs.all (subB T K q)) && (T.flds.all (fun q => (He.Fa.noat q.1 q.2).ok K) &&
  (freeNames.all (fun x => (He.Fa.free x).ok K) && (sysB K && ((T.errs.isEmpty || ((He.Fa.glo U).ok K && inhB K (He.ga K U))) && T.glb.all (glbB K)))))))))
/-! ### the hook -/
def frM (n : Nat) (g : Addr → Option Obj) : Frag := He.frG g (He.asD g n ++ [cStatics, sysModules])
def obsM (T : Prog) (U : Str) (fn : List He5.DefA) (K : Frag) : He.AlD := (chkM T U K && fn.all fun d => d.ok K, fn.map fun d => He5.fnA K (d.at_ K))
def valM (fn : List He5.DefA) : He.AlD := (true, fn.map He5.DefA.val)
def SaysM (T : Prog) (U : Str) (fn : List He5.DefA) (K : Frag) : Prop := obsM T U fn K = valM fn
def obsMG (n : Nat) (T : Prog) (U : Str) (fn : List He5.DefA) (g : Addr → Option Obj) : He.AlD := obsM T U fn (frM n g)
def hookM (n : Nat) (T : Prog) (U : Str) (fn : List He5.DefA) : PySem.W.Hook where
  α := He.AlD
  obs := fun s => obsMG n T U fn s.heap.get?
  val := fun _ => valM fn
  says := fun _ h => ∃ K : Frag, K.In h ∧ SaysM T U fn K
  of := fun _ _ e => ⟨_, He.frG_in, e⟩
  keeps := fun _ _ _ ⟨K, hK, c⟩ k => ⟨K, Frag.In.keeps hK k, c⟩
theorem obsMG_eq {n : Nat} {T : Prog} {U : Str} {fn : List He5.DefA} {g : Addr → Option Obj} {s : Shared} (h : ∀ a, g a = s.heap.get? a) : obsMG n T U fn g = (hookM n T U fn).obs s := by
  have e : g = s.heap.get? := funext h
  rw [e]
  rfl
section
variable {T : Prog} {U : Str} {fn : List He5.DefA} {K : Frag}
theorem SaysM.chk (c : SaysM T U fn K) : chkM T U K = true := (He.ba (show (chkM T U K && fn.all fun d => d.ok K) = true from congrArg (fun z : He.AlD => z.1) c)).1
theorem SaysM.def_ (c : SaysM T U fn K) (i : Nat) {d : He5.DefA} (h : fn[i]? = some d) : ∃ fd, FunD K d.name d.qual d.params d.body d.scope (d.dvs K) (d.kws K) (d.at_ K) fd := by
  have c2 := (He.ba (show (chkM T U K && fn.all fun d => d.ok K) = true from congrArg (fun z : He.AlD => z.1) c)).2
  have e : fn.map (fun d => He5.fnA K (d.at_ K)) = fn.map He5.DefA.val := congrArg (fun z : He.AlD => z.2) c
  have e2 : (fn.map fun d => He5.fnA K (d.at_ K))[i]? = (fn.map He5.DefA.val)[i]? := by rw [e]
  rw [List.getElem?_map, List.getElem?_map, h] at e2
  exact He5.DefA.funD (Option.some.inj e2) (List.all_eq_true.mp c2 d (List.mem_of_getElem? h))
end
end Mir
set_option Elab.async false
set_option linter.all false
set_option maxRecDepth 100000
set_option maxHeartbeats 4000000
/-! MHead2: a head's facts give what the levels lean on. -/
namespace Mir
open PySem L2
open PySem.W (Frag)
/-- where a def stands -/
def adr (T : Prog) (f : Fid) (K : Frag) : Addr := match f.2 with
  | none => He.ga K f.1
  | some m => if T.props.contains (f.1, m) = true then gtr K (He.ga K f.1) m else He.ma K (He.ga K f.1) m
structure Src where
  fid : Fid
  qual : Str
  st : Stmt
  dfl : List He.Dv
  d : FDef
def Src.name (s : Src) : Str := s.fid.2.getD s.fid.1
def Src.defA (T : Prog) (s : Src) : He5.DefA := ⟨adr T s.fid, s.name, s.qual, defArgs s.st, defBody s.st, defScope s.st, s.dfl, []⟩
def dvM : He.Dv → Option MV
  | .non => some .non
  | .bl b => some (.bl b)
  | .int i => some (.int i)
  | .str x => some (.str x)
  | _ => none
def dvAll : List He.Dv → List MV → Bool
  | [], [] => true
  | .non :: r, .non :: q => dvAll r q
  | .bl b :: r, .bl c :: q => (b == c) && dvAll r q
  | .int b :: r, .int c :: q => decide (b = c) && dvAll r q
  | .str b :: r, .str c :: q => decide (b = c) && dvAll r q
  | _, _ => false
theorem dvAll_ok {K : Frag} (ρ : List Addr) (H : Hp) : ∀ {ds : List He.Dv} {ms : List MV}, dvAll ds ms = true → RelMs ρ K H ms (ds.map (He.Dv.v K)) := by
  intro ds
  induction ds with
  | nil =>
    intro ms h
    cases ms with
    | nil => exact .nil
    | cons a b => cases h
  | cons a r ih =>
    intro ms h
    unfold dvAll at h
    split at h
    · exact absurd (by assumption) (List.cons_ne_nil _ _)
    · rename_i e1; cases e1; exact .cons (by unfold RelM; rfl) (ih h)
    · rename_i e1
      cases e1
      obtain ⟨h1, h2⟩ := He.ba h
      obtain rfl := eq_of_beq h1
      exact .cons (by unfold RelM; rfl) (ih h2)
    · rename_i e1
      cases e1
      obtain ⟨h1, h2⟩ := He.ba h
      obtain rfl := of_decide_eq_true h1
      exact .cons (by unfold RelM; rfl) (ih h2)
    · rename_i e1
      cases e1
      obtain ⟨h1, h2⟩ := He.ba h
      obtain rfl := of_decide_eq_true h1
      exact .cons (by unfold RelM; rfl) (ih h2)
    · cases h
def argsB (a : Arguments) (ps : List Str) : Bool := match a with
  | ⟨[], as, none, [], [], none, _⟩ => decide (as.map (·.arg) = ps)
  | _ => false
theorem argsB_ok {a : Arguments} {ps : List Str} (h : argsB a ps = true) : ∃ as ds, as.map (·.arg) = ps ∧ a = { posonlyargs := [], args := as, vararg := none, kwonlyargs := [], kw_defaults := [], kwarg := none, defaults := ds } := by
  unfold argsB at h
  split at h
  · next as ds => exact ⟨as, ds, of_decide_eq_true h, rfl⟩
  · cases h
def scpB (N P : List Str) (sc : Scope) : Bool := decide (sc.kind = .function) && (!sc.isCoroutine && (!sc.isGenerator && (decide N.Nodup && (decide (N.take P.length = P) && (P.all (fun x => decide (sc.names.lookup x = some .local) || decide (sc.names.lookup x = some .cell)) && sc.names.all fun y => decide (y.2 ≠ .free))))))
theorem scpB_ok {N P : List Str} {sc : Scope} (h : scpB N P sc = true) : FnScope N P sc := by
  obtain ⟨h1, h⟩ := He.ba h
  obtain ⟨h2, h⟩ := He.ba h
  obtain ⟨h3, h⟩ := He.ba h
  obtain ⟨h4, h⟩ := He.ba h
  obtain ⟨h5, h⟩ := He.ba h
  obtain ⟨h6, h7⟩ := He.ba h
  refine ⟨of_decide_eq_true h1, by simpa using h2, by simpa using h3, of_decide_eq_true h4, of_decide_eq_true h5, fun x hx => ?_, fun y hy => of_decide_eq_true (List.all_eq_true.mp h7 y hy)⟩
  have := List.all_eq_true.mp h6 x hx
  simpa using this
def Src.ok (s : Src) : Bool := argsB (defArgs s.st) s.d.ps && (scpB s.d.N s.d.ps (defScope s.st) && dvAll s.dfl s.d.dfl)
def Src.cmp (T : Prog) (s : Src) : Prop := compSs fuelC (ctOf T s.d.N (defScope s.st)) (defBody s.st) = some s.d.body
/-! ### errors -/
structure ErS where
  C : Str
  qual : Str
  st : Stmt
  fs : List Str
def ErS.defA (s : ErS) : He5.DefA := ⟨fun K => He.ma K (He.ga K s.C) "__init__", "__init__", s.qual, defArgs s.st, defBody s.st, defScope s.st, [], []⟩
def asgsB : List Str → List Stmt → Bool
  | [], [] => true
  | f :: fs, .Assign [.Attribute (.Name s _) g _] (.Name h _) _ :: r => decide (s = slf) && (decide (g = f) && (decide (h = f) && asgsB fs r))
  | _, _ => false
def errBody (U : Str) (fs : List Str) : List Stmt → Bool
  | .Expr (.Call (.Attribute (.Name u _) i ap) [.Name s _, .Constant (.str _) _ _] [] cp) _ :: r => decide (ap.endLine = cp.line) && (decide (u = U) && (decide (i = "__init__") && (decide (s = slf) && asgsB fs r)))
  | _ => false
def plainN (x : Str) : Bool := !(x == ("__debug__" : Str)) && !(x == ("__classdict__" : Str))
def ErS.ok (U : Str) (s : ErS) : Bool := argsB (defArgs s.st) (slf :: s.fs) && (scpB (slf :: s.fs) (slf :: s.fs) (defScope s.st) && (errBody U s.fs (defBody s.st) && (decide ((defScope s.st).names.lookup U = some .globalImplicit) && (s.fs.all (fun f => plainN f) && (plainN U && decide (s.fs ≠ [] ∧ s.fs.length ≤ 900 ∧ slf ∉ s.fs ∧ s.fs.Nodup))))))
theorem vis_of {N : List Str} {sc : Scope} (S : FnScope N N sc) {x : Str} (h : x ∈ N) : Vis sc x := by
  rcases S.par x h with k | k
  · exact .inl k
  · exact .inr (.inl k)
theorem asgs_ok {X : Cx} {scope : Scope} (S : FnScope X.N X.N scope) (hs : X.env.scope = scope) (h0 : X.N[0]? = some slf) : ∀ (fs : List Str) (b : List Stmt) (k : Nat), asgsB fs b = true → (∀ i, (hi : i < fs.length) → X.N[k + i]? = fs[i]?) → (∀ f ∈ fs, plainN f = true) → AsgsOk X b (fs.zipIdx k) := by
  intro fs
  induction fs with
  | nil =>
    intro b k h _ _
    cases b with
    | nil => exact .nil
    | cons a r => cases h
  | cons f fs ih =>
    intro b k h hN hp
    unfold asgsB at h
    split at h
    · exact absurd (by assumption) (List.cons_ne_nil _ _)
    · rename_i e1
      cases e1
      obtain ⟨h1, h⟩ := He.ba h
      obtain ⟨h2, h⟩ := He.ba h
      obtain ⟨h3, h4⟩ := He.ba h
      obtain rfl := of_decide_eq_true h1
      obtain rfl := of_decide_eq_true h2
      obtain rfl := of_decide_eq_true h3
      have hf := hN 0 (by simp)
      rw [Nat.add_zero] at hf
      have hf' : X.N[k]? = some _ := hf
      obtain ⟨d1, d2⟩ := Bool.and_eq_true_iff.mp (hp _ List.mem_cons_self)
      refine .cons (ps_ost (pe_var h0 (by rw [hs]; exact vis_of S (List.mem_of_getElem? h0)) rfl rfl) (pe_var hf' (by rw [hs]; exact vis_of S (List.mem_of_getElem? hf')) (by simpa using d1) (by simpa using d2)) rfl) (ih _ (k + 1) h4 (fun i hi => ?_) fun g hg => hp g (List.mem_cons_of_mem _ hg))
      have := hN (i + 1) (by simpa using hi)
      rw [show k + 1 + i = k + (i + 1) by omega, this]
      rfl
    · cases h
section
variable {P : Program} {w : World} {K : Frag} {mg : Str → Option Value} {base : Heap} {U : Str}
theorem ers_ok {s : ErS} (h : s.ok U = true) (hU : mg U = some (.ref (He.ga K U))) (J : InhI K (He.ga K U)) (E : ErrC K (He.ga K s.C) s.fs) {fd : FuncData} (F : FunD K "__init__" s.qual (defArgs s.st) (defBody s.st) (defScope s.st) [] [] (He.ma K (He.ga K s.C) "__init__") fd) :
    GErr 2 P w K mg base (He.ga K s.C) s.fs := by
  obtain ⟨C, qual, st, fs⟩ := s
  obtain ⟨h1, h⟩ := He.ba h
  obtain ⟨h2, h⟩ := He.ba h
  obtain ⟨h3, h⟩ := He.ba h
  obtain ⟨h4, h⟩ := He.ba h
  obtain ⟨h5, h⟩ := He.ba h
  obtain ⟨h6, h7⟩ := He.ba h
  obtain ⟨n1, n2, n3, n4⟩ := of_decide_eq_true h7
  have S := scpB_ok h2
  obtain ⟨as, ds, e1, e2⟩ := argsB_ok h1
  dsimp only at *
  obtain ⟨u1, u2⟩ := Bool.and_eq_true_iff.mp h6
  refine ⟨E, List.nodup_cons.mpr ⟨n3, n4⟩, n2, "__init__", qual, defBody st, defScope st, fd, ⟨as, ds, [], e1, fun ρ H => .nil, by rw [← e2]; exact F⟩, ?_⟩
  have hg := of_decide_eq_true h4
  generalize hb : defBody st = body at h3 F
  unfold errBody at h3
  split at h3
  · next u p1 i p2 s p3 txt j p4 p5 p6 r =>
    obtain ⟨k0, h3⟩ := He.ba h3
    obtain ⟨k1, h3⟩ := He.ba h3
    obtain ⟨k2, h3⟩ := He.ba h3
    obtain ⟨k3, k4⟩ := He.ba h3
    obtain rfl := of_decide_eq_true k1
    obtain rfl := of_decide_eq_true k2
    obtain rfl := of_decide_eq_true k3
    refine err_init (txt := txt) F S E n1 n2 (fun X eK eM eN eS => ?_) fun X eK eN eS => ?_
    · subst eK eM
      have h0 : X.N[0]? = some slf := by rw [eN]; rfl
      have gl : Gl X u := by
        show X.env.scope.names.lookup u = _
        rw [eS]
        exact hg
      exact ps_expr (pe_inhI gl hU (by simpa using u1) J (pa_cons (pe_var h0 (by rw [eS]; exact vis_of S List.mem_cons_self) rfl rfl) (pa_cons pe_str pa_nil rfl) rfl) (mCall (ks := []) (fun y hy => (by simp at hy; rcases hy with rfl | rfl <;> rfl)) rfl (by simp) rfl (of_decide_eq_true k0)) rfl rfl) rfl
    · subst eK
      exact asgs_ok (scope := defScope st) (by rw [eN]; exact S) eS (by rw [eN]; rfl) fs r 1 k4 (fun i hi => by rw [eN, show 1 + i = i + 1 by omega]; rfl) fun f hf => List.all_eq_true.mp h5 f hf
  · cases h3
end
end Mir
set_option Elab.async false
set_option linter.all false
set_option maxRecDepth 100000
set_option maxHeartbeats 4000000
/-! MEnd: from a mirror's answer to a law. -/
namespace Mir
open PySem L2 PySem.Spec PyProof.Rows
open PySem.W (Frag)
section
variable {T : Prog} {U : Str} {P : Program} {w : World} {K : Frag} {mg : Str → Option Value} {base h : Heap}
/-- the defs of a text, in the order of T.fns; the errors, in the order of T.exf -/
structure Txs (T : Prog) (U : Str) (srcs : List Src) (ers : List ErS) : Prop where
  fns : T.fns = srcs.map fun s => (s.fid, s.d)
  exf : T.exf = ers.map fun s => (s.C, s.fs)
  ok : srcs.all (·.ok) = true
  eok : ers.all (·.ok U) = true
  cmp : ∀ s ∈ srcs, s.cmp T
  err : ∀ C ∈ T.exf.map (·.1), T.errs.contains C = true
  ne : T.exf ≠ [] → T.errs.isEmpty = false
def fnAll (T : Prog) (srcs : List Src) (ers : List ErS) : List He5.DefA := srcs.map (Src.defA T) ++ ers.map ErS.defA
theorem look_mem {α β γ : Type} [BEq α] [LawfulBEq α] {f : γ → α × β} : ∀ {l : List γ} {a : α} {b : β}, (l.map f).lookup a = some b → ∃ (i : Nat) (x : γ), l[i]? = some x ∧ f x = (a, b)
  | [], a, b, h => by cases h
  | x :: r, a, b, h => by
    rw [List.map_cons] at h
    cases e : f x with
    | mk a' b' =>
      rw [e, List.lookup_cons] at h
      split at h
      · next q =>
        cases h
        obtain rfl := eq_of_beq q
        exact ⟨0, x, rfl, e⟩
      · obtain ⟨i, y, h1, h2⟩ := look_mem h
        exact ⟨i + 1, y, h1, h2⟩
theorem hd_of {srcs : List Src} {ers : List ErS} (t : Txs T U srcs ers) (c : SaysM T U (fnAll T srcs ers) K) (X : K.In h) (G : h.Ns mainGlobals mg) : Hd T P w K mg base := by
  obtain ⟨c1, k⟩ := He.ba c.chk
  obtain ⟨c2, k⟩ := He.ba k
  obtain ⟨c3, k⟩ := He.ba k
  obtain ⟨c4, k⟩ := He.ba k
  obtain ⟨c5, k⟩ := He.ba k
  obtain ⟨c6, k⟩ := He.ba k
  obtain ⟨c7, k⟩ := He.ba k
  obtain ⟨c8, k⟩ := He.ba k
  obtain ⟨c9, c10⟩ := He.ba k
  have src : ∀ {f : Fid} {d : FDef}, T.fns.lookup f = some d → (fnB T K (f, d) = true) ∧ ∀ a, adr T f K = a → DefC T K a d := by
    intro f d hf
    have hf0 := hf
    rw [t.fns] at hf
    obtain ⟨i, s, hs, e⟩ := look_mem hf
    have hm := List.mem_of_getElem? hs
    cases e
    refine ⟨List.all_eq_true.mp c1 _ (by rw [t.fns]; exact List.mem_map_of_mem hm), fun a ha => ?_⟩
    subst ha
    obtain ⟨o1, o2⟩ := He.ba (List.all_eq_true.mp t.ok s hm)
    obtain ⟨o2, o3⟩ := He.ba o2
    obtain ⟨as, ds, e1, e2⟩ := argsB_ok o1
    obtain ⟨fd, F⟩ := c.def_ i (d := s.defA T) (by
      have hl : i < (srcs.map (Src.defA T)).length := by simpa using (List.getElem?_eq_some_iff.mp hs).1
      unfold fnAll
      rw [List.getElem?_append_left hl, List.getElem?_map, hs]
      rfl)
    refine ⟨s.name, s.qual, defBody s.st, defScope s.st, fd, ⟨as, ds, _, e1, fun ρ H => dvAll_ok ρ H o3, ?_⟩, scpB_ok o2, t.cmp s hm⟩
    rw [← e2]
    exact F
  refine ⟨fun x d hf => ?_, fun C hC => ?_, fun C m d hC hp hf => ?_, fun C f d hC hp hf => ?_, fun C fs hf hn => ?_, fun C hC => ?_, fun C fs D hf hn hD => ?_, fun C f hC hf => ?_, fun x v hx => ?_, fun x hx => ?_, ?_⟩
  · obtain ⟨s1, s2⟩ := src hf
    exact ⟨He.glo_ok X G s1, s2 _ rfl⟩
  · obtain ⟨k1, k2⟩ := He.ba (List.all_eq_true.mp c2 C (by simpa using hC))
    obtain ⟨k2, k3⟩ := He.ba k2
    exact ⟨He.cls_ok k1, He.glo_ok X G k2, He.mkr_ok k3⟩
  · obtain ⟨s1, s2⟩ := src hf
    unfold fnB at s1
    dsimp only at s1
    rw [if_pos hC, if_neg (by rw [hp]; exact Bool.false_ne_true)] at s1
    refine ⟨He.meth_ok s1, s2 _ ?_⟩
    unfold adr
    dsimp only
    rw [if_neg (by rw [hp]; exact Bool.false_ne_true)]
  · obtain ⟨s1, s2⟩ := src hf
    unfold fnB at s1
    dsimp only at s1
    rw [if_pos hC, if_pos hp] at s1
    refine ⟨_, _, prpB_ok s1, s2 _ ?_⟩
    unfold adr
    dsimp only
    rw [if_pos hp]
  · have hf0 := hf
    rw [t.exf] at hf
    obtain ⟨i, s, hs, e⟩ := look_mem hf
    have hm := List.mem_of_getElem? hs
    cases e
    have hmem : (s.C, s.fs) ∈ T.exf := by rw [t.exf]; exact List.mem_map_of_mem hm
    obtain ⟨k1, k2⟩ := He.ba (List.all_eq_true.mp c3 _ hmem)
    have hne : T.errs.isEmpty = false := t.ne fun z => by rw [z] at hmem; cases hmem
    rw [hne, Bool.false_or] at c9
    obtain ⟨g1, g2⟩ := He.ba c9
    obtain ⟨fd, F⟩ := c.def_ (srcs.length + i) (d := s.defA) (by
      unfold fnAll
      rw [List.getElem?_append_right (by simp), List.getElem?_map]
      simp [hs])
    exact ⟨He.glo_ok X G k1, ers_ok (U := U) (List.all_eq_true.mp t.eok s hm) (He.glo_ok X G g1) (inhB_ok g2) (errB_ok k2) F⟩
  · obtain ⟨k1, k2⟩ := He.ba (List.all_eq_true.mp c4 C (by simpa using hC))
    exact ⟨He.glo_ok X G k1, of_decide_eq_true k2⟩
  · have hmem : (C, fs) ∈ T.exf := PySem.mem_of_lookup hf
    obtain ⟨k1, k2⟩ := He.ba (List.all_eq_true.mp (List.all_eq_true.mp c5 _ hmem) D (by simpa using hD))
    exact ⟨of_decide_eq_true k1, of_decide_eq_true k2⟩
  · exact He.noat_ok (List.all_eq_true.mp c6 (C, f) (by simpa using hf))
  · have hm : (x, v) ∈ T.glb := PySem.mem_of_lookup hx
    have k := List.all_eq_true.mp c10 _ hm
    unfold glbB at k
    dsimp only at k
    split at k
    · obtain ⟨t, ht⟩ := He.int_ok X G k
      exact ⟨_, .int _, ht, ⟨t, rfl⟩, fun _ _ => by unfold RelM; rfl⟩
    · obtain ⟨t, ht⟩ := He.str_ok X G k
      exact ⟨_, .str _, ht, ⟨t, rfl⟩, fun _ _ => by unfold RelM; rfl⟩
    · cases k
  · exact He.free_ok X G (List.all_eq_true.mp c7 x hx)
  · unfold sysB at c8
    split at c8
    · next o e => exact ⟨o, e, of_decide_eq_true c8⟩
    · cases c8
/-- the law's call, by its mirror's answer -/
theorem lawG {s1 : Shared} {a : Addr} {vs : List Value} {ns : List Int} {d : FDef} {m : Nat} {mb : Str → Option Value} {lawN : Str} (D : ∀ base, Hd T P w K mg base) (KX : K.In s1.heap) (hns : s1.heap.Ns mainGlobals mg) (hb : s1.heap.Ns builtinsNs mb) (hbb : ∀ x : Str, x ≠ "__name__" → mb x = bootBuiltins x)
    (hlim : s1.heap.NoLimit) (hg : s1.gens = #[]) (ha : s1.heap.get? a = some { cls := .type "list", data := .seq vs.toArray }) (hi : IntsAre vs ns) (hl : ns.length ≤ sizeLine) (hr : RG (2 * m + 4) callerA) (hd : T.fns.lookup (lawN, none) = some d)
    (hans : ∃ W', callF T (m + 1) (lawN, none) [.ref 0] [] [.rdl (ns.map MV.int)] = .ok (.bl true) W') :
    codeAny (model P w) callerA (.call (.ref (He.ga K lawN)) ⟨[.ref a], []⟩) (fun r s' => r = .ok (.ret (.bool true)) ∧ OldK s1.heap s'.heap ∧ s'.os = s1.os ∧ AllBare s'.gens) s1 := by
  have rv := vals_ints hi
  have relI : ∀ (ρ : List Addr) (H : Hp), RelMs ρ K H (ns.map MV.int) (ns.map V.int) := fun ρ H => by
    clear hi rv hl hans
    induction ns with
    | nil => exact .nil
    | cons z r ih => exact .cons (by unfold RelM; rfl) ih
  have core : ∀ H : Hp, (∀ b, H b = none ∨ ∃ o xs, H b = some (.frz o (.lst xs))) → SimW [a] K [.rdl (ns.map MV.int)] H → HOk P w H s1.heap → (∀ b, H b ≠ none → b = a) → (H a ≠ none → K.lookup a = none) →
      codeAny (model P w) callerA (.call (.ref (He.ga K lawN)) ⟨[.ref a], []⟩) (fun r s' => r = .ok (.ret (.bool true)) ∧ OldK s1.heap s'.heap ∧ s'.os = s1.os ∧ AllBare s'.gens) s1 := by
    intro H hO S hok hA hK
    have un : ∀ {b : Addr} {o : Obj}, s1.heap.get? b = some o → (b = a → False) → (hidT s1.heap H).get? b = some o := fun {b o} e n => hidT_get e (by
      cases q : H b with
      | none => rfl
      | some u => exact (n (hA b (by rw [q]; simp))).elim)
    have noD : ∀ {b : Addr} {o : Obj} {es : Array DictEntry} {ep : Nat}, s1.heap.get? b = some o → o.data = .dict es ep → b = a → False := fun {b o es ep} e dd z => by
      subst z
      cases ha.symm.trans e
      cases dd
    have nsK : ∀ {b : Addr} {z : Str → Option Value}, s1.heap.Ns b z → (hidT s1.heap H).Ns b z := fun {b z} ⟨o, es, ep, e, dd, r⟩ => ⟨o, es, ep, un e (noD e dd), dd, r⟩
    have hKb : K.In (hidT s1.heap H) := fun b o e => hidT_get (KX b o e) (by
      cases q : H b with
      | none => rfl
      | some u =>
        have z := hA b (by rw [q]; simp)
        subst z
        exact absurd ((hK (by rw [q]; simp)).symm.trans e) (by simp))
    obtain ⟨mc, l1, l2⟩ := hlim
    have e0 : Env0 P w K mg (hidT s1.heap H) callerA [] s1 H := ⟨rfl, ⟨hKb, nsK hns, ⟨mb, nsK hb, hbb⟩, mc, nsK l1, l2⟩, fun b o e => of_hidT e, Nat.le_of_eq (hidT_size _ _), trivial, fun b hb => (by cases hb), hok, .of_eq hg⟩
    have DD := D (hidT s1.heap H)
    obtain ⟨x, qual, body, scope, fd, h1, h2, h3⟩ := (DD.glo lawN d hd).2
    have F := level DD m (He.ga K lawN) d x qual body scope fd h1 h2 h3
    obtain ⟨W', hW⟩ := hans
    unfold callF at hW
    rw [hd] at hW
    dsimp only at hW
    cases eb : bindL d.ps [MV.ref 0] [] d.dfl with
    | none => rw [eb] at hW; cases hW
    | some as =>
      rw [eb] at hW
      dsimp only at hW
      refine codeAny_mono (core_g (ρ := [a]) (xs := [.ref a]) (ks := []) (kvs := []) (ys := []) (ws := []) (Q := fun v _ => v = .bl true) (E := fun _ _ _ => False) hr h1 F e0 KX S (.cons (by unfold RelM; exact ⟨a, rfl, rfl⟩) .nil) (.cons rfl .nil) .nil .nil eb ?_) fun r s' q => ?_
      · rw [hW]
        intro ρ' H' u _ _ r'
        unfold RelM at r'
        exact r'
      · cases r with
        | error e =>
          obtain ⟨_, _, _, _, _, _, _, _, _, _, _, _, z⟩ := q
          exact z.elim
        | ok fl =>
          cases fl with
          | ret u =>
            obtain ⟨v, H', os, bare, unn, hok', r', q'⟩ := q
            have q2 : v = .bl true := q'
            subst q2
            obtain rfl : u = Value.bool true := r'
            refine ⟨rfl, OldK.of_keep fun b o e => ?_, os, bare⟩
            rcases hO b with z | ⟨ob, xs, z⟩
            · exact unn.keep b o e z (fun hm => (by cases hm)) (by simp)
            · obtain ⟨g1, _⟩ := hok b _ z
              obtain ⟨g2, _⟩ := hok' b _ (unn.frzs b ob _ z)
              cases e.symm.trans g1
              exact g2
          | _ => exact q.elim
  have one : ∀ H : Hp, CellRel [a] K H a (.rdl (ns.map MV.int)) → SimW [a] K [.rdl (ns.map MV.int)] H := fun H cr => by
    refine ⟨rfl, fun n m p c e a1 a2 a3 a4 m1 m2 => ?_, fun n p c a1 a2 => ?_⟩
    · cases n with
      | zero => cases a3; cases m1
      | succ n => simp at a3
    · cases n with
      | zero => cases a1; cases a2; exact cr
      | succ n => simp at a1
  cases hk : K.lookup a with
  | some o =>
    cases ha.symm.trans (KX a o hk)
    refine core (fun _ => none) (fun _ => .inl rfl) (one _ ⟨ns.map V.int, .inr fun H' => .inr ⟨_, vs.toArray, _, hk, rfl, rfl, rfl, ?_, by simpa using rv⟩, relI _ _⟩) (fun b u z => (by cases z)) (fun b z => absurd rfl z) fun z => absurd rfl z
    rw [List.size_toArray, hi.length]
    exact hl
  | none =>
    have at_ : ∀ b, (fun b => if b = a then some (HO.frz { cls := .type "list", data := .seq vs.toArray } (.lst (ns.map V.int))) else none) b = (if b = a then some (HO.frz { cls := .type "list", data := .seq vs.toArray } (.lst (ns.map V.int))) else none) := fun _ => rfl
    refine core (fun b => if b = a then some (.frz { cls := .type "list", data := .seq vs.toArray } (.lst (ns.map V.int))) else none) (fun b => ?_) (one _ ⟨ns.map V.int, .inl ⟨_, if_pos rfl⟩, relI _ _⟩) (fun b u z => ?_) (fun b z => ?_) fun _ => hk
    · by_cases hb : b = a
      · exact .inr ⟨_, _, if_pos hb⟩
      · exact .inl (if_neg hb)
    · by_cases hb : b = a
      · cases (if_pos hb).symm.trans z
        subst hb
        exact ⟨ha, Nat.le_trans (Nat.le_of_eq (List.length_map ..)) hl, vs, _, rv, ha⟩
      · cases (if_neg hb).symm.trans z
    · exact Classical.byContradiction fun hb => z (if_neg hb)
/-- THE END -/
theorem walkM {l : PySem.W.OpenLaw} {q : Program} {loose : List Str} {XP : (Str → Option Value) → Heap → Prop} {d : DefRec} {srcs : List Src} {ers : List ErS} {lawD : FDef} {lawN : Str} {m n : Nat}
    (hn : l.most = some n) (hn2 : n ≤ sizeLine) (hdf : d.params.defaults = []) (hdn : d.name = lawN) (t : Txs T U srcs ers) (hr : RG (2 * m + 4) callerA) (hd : T.fns.lookup (lawN, none) = some lawD)
    (ans : ∀ ns : List Int, ns.length ≤ n → (∀ z ∈ ns, Builtin.Int.intBits z ≤ 1048576) → ∃ W', callF T (m + 1) (lawN, none) [.ref 0] [] [.rdl (ns.map MV.int)] = .ok (.bl true) W') :
    PySem.W.WalkO q loose XP (fun _ h => ∃ K : Frag, K.In h ∧ SaysM T U (fnAll T srcs ers) K) l.row.toRowW d [] (fun f vs => PySem.call f vs) := by
  refine Att.attach_callB hn hdf fun w s₀ s₁ mg mb fa o pm cd doc a vs ns G Y ho hd' hcd hmg hobj hints hlen hbits hg => ?_
  obtain ⟨K, KX, c⟩ := Y
  have D : ∀ base, Hd T l.prog w K mg base := fun base => hd_of t c KX G.T.g
  rw [hdn] at hmg
  cases hmg.symm.trans ((D (hidT s₁.heap fun _ => none)).glo lawN lawD hd).1
  exact lawG D KX G.T.g G.T.b G.T.builtins G.T.nolimit hg hobj hints (Nat.le_trans hlen hn2) hr hd (ans ns hlen hbits)
end
end Mir
set_option Elab.async false
set_option linter.all false
set_option maxRecDepth 100000
set_option maxHeartbeats 0
namespace K05
open PySem Mir
abbrev pw : Program := PySem.Challenge.pw_neverunsaid_k05_frames_and_cuts
def top (i : Nat) : Stmt := pw.main.body.getD i (.Pass ⟨0, 0, 0, 0⟩)
def inCls (i j : Nat) : Stmt := match top i with
  | .ClassDef _ _ _ b _ _ _ _ _ _ _ => b.getD j (.Pass ⟨0, 0, 0, 0⟩)
  | _ => .Pass ⟨0, 0, 0, 0⟩
def d_is_signs : FDef := ⟨["value", "most"], [.non], ["value", "most", "sign"],
   [.ife (.or (.not (.isi (.var 0) ["str"])) (.and (.cmp .IsNot (.var 1) (.lit .non)) (.cmp .Gt (.bi .len [.var 0]) (.var 1)))) [.ret (some (.lit (.bl false)))] [],
    .ret (some (.bi .all [.comp (.chain .LtE .LtE (.lit (.str " ")) (.var 2) (.lit (.str "~"))) 2 false (.var 0) none]))]⟩
def s_is_signs : Src := ⟨("is_signs", none), "is_signs", top 5, [.non], d_is_signs⟩
def d_framed : FDef := ⟨["text"], [], ["text"],
   [.ife (.not (.call "is_signs" [.var 0, .lit (.int 9999)] [] [])) [.raise "InvalidText" [.var 0]] [],
    .ret (some (.fst [.fmt true (.bi .len [.var 0]), .fmt false (.var 0), .lit (.str ".")]))]⟩
def s_framed : Src := ⟨("framed", none), "framed", top 10, [], d_framed⟩
def d_frame_at : FDef := ⟨["signs", "at"], [], ["signs", "at", "head", "end", "sign"],
   [.asg (.var 2) (.slc (.var 0) (some (.var 1)) (some (.bin .Add (.var 1) (.lit (.int 4))))),
    .ife (.or (.cmp .Lt (.bi .len [.var 2]) (.lit (.int 4))) (.not (.bi .all [.comp (.cmp .In (.var 4) (.lit (.str "0123456789"))) 4 false (.var 2) none]))) [.ret (some (.lit .non))] [],
    .asg (.var 3) (.bin .Add (.bin .Add (.var 1) (.lit (.int 4))) (.bi .int [.var 2])),
    .ret (some (.ite (.cmp .Eq (.slc (.var 0) (some (.var 3)) (some (.bin .Add (.var 3) (.lit (.int 1))))) (.lit (.str "."))) (.slc (.var 0) (some (.bin .Add (.var 1) (.lit (.int 4)))) (some (.var 3))) (.lit .non)))]⟩
def s_frame_at : Src := ⟨("frame_at", none), "frame_at", top 11, [], d_frame_at⟩
def d_frames_in : FDef := ⟨["signs"], [], ["signs", "texts", "good", "text"],
   [.ife (.not (.call "is_signs" [.var 0] [] [])) [.raise "InvalidSigns" [.var 0]] [],
    .asg (.tup [1, 2]) (.tup [.lst [], .lit (.int 0)]),
    .wlw 3 (.call "frame_at" [.var 0, .var 2] [] []) [.expr (.bm .append (.var 1) [.var 3]),
    .aug 2 .Add (.bin .Add (.bin .Add (.lit (.int 4)) (.bi .len [.var 3])) (.lit (.int 1)))],
    .ret (some (.tup [.var 1, .var 2]))]⟩
def s_frames_in : Src := ⟨("frames_in", none), "frames_in", top 12, [], d_frames_in⟩
def d__law_cell : FDef := ⟨["_law_script", "_law_k"], [], ["_law_script", "_law_k"],
   [.ret (some (.ite (.cmp .Lt (.var 1) (.bi .len [.var 0])) (.idx (.var 0) (.var 1)) (.bin .Add (.bin .Mult (.lit (.int 6029)) (.var 1)) (.bin .Mod (.bi .sum [.slc (.var 0) none (some (.lit (.int 1)))]) (.lit (.int 1000033))))))]⟩
def s__law_cell : Src := ⟨("_law_cell", none), "_law_cell", top 14, [], d__law_cell⟩
def d__law_box : FDef := ⟨["_law_great"], [], ["_law_great"],
   [.ret (some (.lst [.bi .abs [.var 0], .cmp .GtE (.bi .abs [.var 0]) (.bin .Pow (.lit (.int 10)) (.lit (.int 18))), .bin .Mod (.bi .int [.bi .abs [.var 0]]) (.lit (.int 2147483629)), .lit (.int 0)]))]⟩
def s__law_box : Src := ⟨("_law_box", none), "_law_box", top 15, [], d__law_box⟩
def d__law_take : FDef := ⟨["_law_box_here", "_law_many"], [], ["_law_box_here", "_law_many", "_law_mixed", "_law_digit"],
   [.ife (.and (.idx (.var 0) (.lit (.int 1))) (.cmp .Gt (.idx (.var 0) (.lit (.int 0))) (.lit (.int 0)))) [.asg (.var 3) (.bin .Mod (.bi .int [.idx (.var 0) (.lit (.int 0))]) (.var 1)),
    .asg (.sub (.var 0) (.lit (.int 0))) (.bin .FloorDiv (.idx (.var 0) (.lit (.int 0))) (.var 1)),
    .ret (some (.var 3))] [],
    .asg (.sub (.var 0) (.lit (.int 3))) (.bin .Add (.idx (.var 0) (.lit (.int 3))) (.lit (.int 1))),
    .asg (.var 2) (.bin .Mod (.bi .int [.bin .Pow (.bin .Add (.bin .Add (.idx (.var 0) (.lit (.int 2))) (.bin .Mult (.lit (.int 15485917)) (.idx (.var 0) (.lit (.int 3))))) (.lit (.int 179424697))) (.lit (.int 5))]) (.lit (.int 2147483647))),
    .ret (some (.bin .Mod (.bin .FloorDiv (.bin .Mod (.bi .int [.bin .Pow (.bin .Add (.bin .Mult (.var 2) (.lit (.int 48271))) (.bin .Mult (.lit (.int 104759)) (.idx (.var 0) (.lit (.int 3))))) (.lit (.int 3))]) (.lit (.int 2147483587))) (.lit (.int 64))) (.var 1)))]⟩
def s__law_take : Src := ⟨("_law_take", none), "_law_take", top 16, [], d__law_take⟩
def d__law_alphabet : FDef := ⟨[], [], [],
   [.ret (some (.lit (.str " !\"#$&'()*+,-./0123456789:;<=>?@ABCDEFGHIJKLMNOPQRSTUVWXYZ[\\]^_`abcdefghijklmnopqrstuvwxyz{|}~")))]⟩
def s__law_alphabet : Src := ⟨("_law_alphabet", none), "_law_alphabet", top 17, [], d__law_alphabet⟩
def d__law_frame : FDef := ⟨["_law_text_here"], [], ["_law_text_here", "_law_many"],
   [.asg (.var 1) (.bi .str [.bi .len [.var 0]]),
    .ret (some (.bin .Add (.bin .Add (.bin .Add (.bin .Mult (.lit (.str "0")) (.bin .Sub (.lit (.int 4)) (.bi .len [.var 1]))) (.var 1)) (.var 0)) (.lit (.str "."))))]⟩
def s__law_frame : Src := ⟨("_law_frame", none), "_law_frame", top 18, [], d__law_frame⟩
def d__law_text : FDef := ⟨["_law_box_here"], [], ["_law_box_here", "_law_alphabet_here", "_law_kind", "_law_at", "_law_many", "_law_turn"],
   [.asg (.tup [1, 2, 3, 4]) (.tup [.call "_law_alphabet" [] [] [], .call "_law_take" [.var 0, .lit (.int 8)] [] [], .call "_law_take" [.var 0, .lit (.int 94)] [] [], .call "_law_take" [.var 0, .lit (.int 12)] [] []]),
    .ife (.cmp .Eq (.var 2) (.lit (.int 0))) [.ret (some (.lit (.str "")))] [],
    .ife (.cmp .Eq (.var 2) (.lit (.int 1))) [.ret (some (.call "_law_frame" [.slc (.var 1) (some (.var 3)) (some (.bin .Add (.var 3) (.var 4)))] [] []))] [],
    .ife (.cmp .Eq (.var 2) (.lit (.int 2))) [.ret (some (.bin .Add (.call "_law_frame" [.lit (.str "")] [] []) (.slc (.call "_law_frame" [.idx (.var 1) (.var 3)] [] []) none (some (.var 4)))))] [],
    .ife (.cmp .Eq (.var 2) (.lit (.int 3))) [.ret (some (.bin .Add (.bin .Mult (.lit (.str ".")) (.var 4)) (.lit (.str "0"))))] [],
    .ife (.cmp .Eq (.var 2) (.lit (.int 4))) [.ret (some (.slc (.bin .Add (.var 1) (.var 1)) (some (.var 3)) (some (.bin .Add (.bin .Add (.var 3) (.lit (.int 40))) (.bin .Mult (.lit (.int 2)) (.var 4))))))] [],
    .ife (.cmp .Eq (.var 2) (.lit (.int 5))) [.ret (some (.bin .Add (.bin .Add (.bin .Mult (.lit (.str " ")) (.var 4)) (.lit (.str "0002"))) (.idx (.var 1) (.var 3))))] [],
    .ret (some (.bm .join (.lit (.str "")) [.comp (.idx (.var 1) (.call "_law_take" [.var 0, .lit (.int 94)] [] [])) 5 true (.var 4) none]))]⟩
def s__law_text : Src := ⟨("_law_text", none), "_law_text", top 19, [], d__law_text⟩
def d__law_texts : FDef := ⟨["_law_box_here", "_law_great"], [], ["_law_box_here", "_law_great", "_law_texts_here", "_law_many", "_law_at", "_law_size", "_law_turn"],
   [.asg (.tup [3, 4, 5]) (.tup [.call "_law_take" [.var 0, .lit (.int 7)] [] [], .call "_law_take" [.var 0, .lit (.int 3)] [] [], .call "_law_take" [.var 0, .lit (.int 4)] [] []]),
    .ife (.not (.var 1)) [.ret (some (.comp (.call "_law_text" [.var 0] [] []) 6 true (.var 3) none))] [],
    .asg (.var 2) (.lst [.call "_law_text" [.var 0] [] [], .call "_law_text" [.var 0] [] []]),
    .expr (.bm .insert (.var 2) [.var 4, .slc (.bin .Mult (.call "_law_alphabet" [] [] []) (.lit (.int 107))) none (some (.idx (.lst [.lit (.int 999), .lit (.int 1000), .lit (.int 9999), .bin .Add (.lit (.int 9950)) (.call "_law_take" [.var 0, .lit (.int 50)] [] [])]) (.var 5)))]),
    .ret (some (.var 2))]⟩
def s__law_texts : Src := ⟨("_law_texts", none), "_law_texts", top 20, [], d__law_texts⟩
def d__law_read : FDef := ⟨["_law_signs"], [], ["_law_signs", "_law_turn", "_law_found", "_law_good", "_law_head", "_law_end", "_law_sign"],
   [.asg (.tup [2, 3]) (.tup [.lst [], .lit (.int 0)]),
    .forE 1 true (.bin .Add (.bin .FloorDiv (.bi .len [.var 0]) (.lit (.int 5))) (.lit (.int 1))) [.asg (.var 4) (.slc (.var 0) (some (.var 3)) (some (.bin .Add (.var 3) (.lit (.int 4))))),
    .ife (.or (.cmp .Lt (.bi .len [.var 4]) (.lit (.int 4))) (.cmp .NotEq (.comp (.var 6) 6 false (.var 4) (some (.cmp .NotIn (.var 6) (.lit (.str "0123456789"))))) (.lst []))) [.ret (some (.tup [.var 2, .var 3]))] [],
    .asg (.var 5) (.bin .Add (.bin .Add (.var 3) (.lit (.int 4))) (.bi .int [.var 4])),
    .ife (.cmp .NotEq (.slc (.var 0) (some (.var 5)) (some (.bin .Add (.var 5) (.lit (.int 1))))) (.lit (.str "."))) [.ret (some (.tup [.var 2, .var 3]))] [],
    .expr (.bm .append (.var 2) [.slc (.var 0) (some (.bin .Add (.var 3) (.lit (.int 4)))) (some (.var 5))]),
    .asg (.var 3) (.bin .Add (.var 5) (.lit (.int 1)))],
    .ret (some (.tup [.var 2, .var 3]))]⟩
def s__law_read : Src := ⟨("_law_read", none), "_law_read", top 21, [], d__law_read⟩
def d__law_equal : FDef := ⟨["_law_told_here", "_law_due"], [], ["_law_told_here", "_law_due"],
   [.ret (some (.and (.cmp .Eq (.var 0) (.var 1)) (.cmp .Eq (.bi .repr [.var 0]) (.bi .repr [.var 1]))))]⟩
def s__law_equal : Src := ⟨("_law_equal", none), "_law_equal", top 22, [], d__law_equal⟩
def d__law_told : FDef := ⟨["_law_signs", "_law_due", "_law_turn"], [], ["_law_signs", "_law_due", "_law_turn", "_law_first", "_law_texts_here"],
   [.asg (.var 3) (.ite (.cmp .Eq (.var 2) (.lit (.int 0))) (.call "frames_in" [.var 0] [] []) (.call "frames_in" [] ["signs"] [.var 0])),
    .ife (.not (.call "_law_equal" [.var 3, .var 1] [] [])) [.ret (some (.lit (.bl false)))] [],
    .asg (.var 4) (.idx (.var 3) (.lit (.int 0))),
    .expr (.bm .append (.var 4) [.lit (.str "more")]),
    .ife (.cmp .Eq (.var 2) (.lit (.int 1))) [.expr (.bm .reverse (.var 4) [])] [],
    .ret (some (.call "_law_equal" [.call "frames_in" [.var 0] [] [], .var 1] [] []))]⟩
def s__law_told : Src := ⟨("_law_told", none), "_law_told", top 23, [], d__law_told⟩
def d__law_ends : FDef := ⟨["_law_texts_here"], [], ["_law_texts_here", "_law_ends_here", "_law_text_here"],
   [.asg (.var 1) (.lst [.lit (.int 0)]),
    .forE 2 false (.var 0) [.expr (.bm .append (.var 1) [.bin .Add (.bin .Add (.idx (.var 1) (.neg (.lit (.int 1)))) (.bi .len [.var 2])) (.lit (.int 5))])],
    .ret (some (.var 1))]⟩
def s__law_ends : Src := ⟨("_law_ends", none), "_law_ends", top 24, [], d__law_ends⟩
def d__law_cuts : FDef := ⟨["_law_box_here", "_law_ends_here"], [], ["_law_box_here", "_law_ends_here", "_law_near", "_law_turn", "_law_end"],
   [.ife (.cmp .LtE (.idx (.var 1) (.neg (.lit (.int 1)))) (.lit (.int 50))) [.ret (some (.lrg (.bin .Add (.idx (.var 1) (.neg (.lit (.int 1)))) (.lit (.int 1)))))] [],
    .ife (.cmp .Gt (.idx (.var 1) (.neg (.lit (.int 1)))) (.lit (.int 900))) [.ret (some (.lst [.idx (.var 1) (.lit (.int 1)), .bin .Sub (.idx (.var 1) (.neg (.lit (.int 1)))) (.lit (.int 1)), .call "_law_take" [.var 0, .bin .Add (.idx (.var 1) (.neg (.lit (.int 1)))) (.lit (.int 1))] [] []]))] [],
    .asg (.var 2) (.bi .sorted [.bin .Add (.bin .Add (.var 1) (.comp (.bin .Sub (.var 4) (.lit (.int 1))) 4 false (.slc (.var 1) (some (.lit (.int 1))) none) none)) (.comp (.bin .Add (.var 4) (.lit (.int 4))) 4 false (.slc (.var 1) none (some (.neg (.lit (.int 1))))) none)]),
    .ret (some (.bin .Add (.var 2) (.comp (.call "_law_take" [.var 0, .bin .Add (.idx (.var 1) (.neg (.lit (.int 1)))) (.lit (.int 1))] [] []) 3 true (.lit (.int 4)) none)))]⟩
def s__law_cuts : Src := ⟨("_law_cuts", none), "_law_cuts", top 25, [], d__law_cuts⟩
def d__law_cut_right : FDef := ⟨["_law_box_here", "_law_texts_here", "_law_turn"], [], ["_law_box_here", "_law_texts_here", "_law_turn", "_law_cut", "_law_text_here", "_law_row", "_law_ends_here", "_law_whole", "_law_end"],
   [.asg (.tup [5, 6]) (.tup [.bm .join (.lit (.str "")) [.comp (.call "_law_frame" [.var 4] [] []) 4 false (.var 1) none], .call "_law_ends" [.var 1] [] []]),
    .forE 3 false (.call "_law_cuts" [.var 0, .var 6] [] []) [.asg (.var 7) (.bin .Sub (.bi .len [.comp (.var 8) 8 false (.var 6) (some (.cmp .LtE (.var 8) (.var 3)))]) (.lit (.int 1))),
    .ife (.not (.call "_law_told" [.slc (.var 5) none (some (.var 3)), .tup [.slc (.var 1) none (some (.var 7)), .idx (.var 6) (.var 7)], .var 2] [] [])) [.ret (some (.lit (.bl false)))] []],
    .forE 4 false (.var 1) [.ife (.not (.call "_law_equal" [.ite (.cmp .Eq (.var 2) (.lit (.int 0))) (.call "framed" [.var 4] [] []) (.call "framed" [] ["text"] [.var 4]), .call "_law_frame" [.var 4] [] []] [] [])) [.ret (some (.lit (.bl false)))] [],
    .ife (.not (.call "_law_equal" [.call "frames_in" [.call "framed" [.var 4] [] []] [] [], .tup [.lst [.var 4], .bin .Add (.bi .len [.var 4]) (.lit (.int 5))]] [] [])) [.ret (some (.lit (.bl false)))] []],
    .ret (some (.call "_law_told" [.var 5, .tup [.var 1, .bi .len [.var 5]], .bin .Sub (.lit (.int 1)) (.var 2)] [] []))]⟩
def s__law_cut_right : Src := ⟨("_law_cut_right", none), "_law_cut_right", top 26, [], d__law_cut_right⟩
def d__law_spoilt : FDef := ⟨["_law_box_here", "_law_row", "_law_ends_here", "_law_first"], [], ["_law_box_here", "_law_row", "_law_ends_here", "_law_first", "_law_way", "_law_kind", "_law_sign", "_law_one", "_law_at", "_law_spot"],
   [.asg (.tup [4, 5, 6]) (.tup [.call "_law_take" [.var 0, .lit (.int 5)] [] [], .call "_law_take" [.var 0, .lit (.int 12)] [] [], .idx (.call "_law_alphabet" [] [] []) (.call "_law_take" [.var 0, .lit (.int 94)] [] [])]),
    .asg (.tup [7, 8, 9]) (.tup [.call "_law_take" [.var 0, .bi .max2 [.lit (.int 1), .bin .Sub (.bi .len [.var 2]) (.lit (.int 1))]] [] [], .call "_law_take" [.var 0, .bin .Add (.bi .len [.var 1]) (.lit (.int 1))] [] [], .call "_law_take" [.var 0, .lit (.int 10)] [] []]),
    .ife (.var 3) [.ret (some (.bin .Add (.bin .Add (.slc (.var 1) none (some (.idx (.var 2) (.var 7)))) (.idx (.lit (.str "+ -_")) (.bin .Mod (.bi .int [.var 5]) (.lit (.int 4))))) (.slc (.var 1) (some (.bin .Add (.idx (.var 2) (.var 7)) (.lit (.int 1)))) none)))] [],
    .ife (.cmp .Lt (.var 9) (.lit (.int 4))) [.asg (.var 8) (.bin .Add (.idx (.var 2) (.var 7)) (.var 9))] [],
    .ife (.cmp .Eq (.var 9) (.lit (.int 4))) [.asg (.var 8) (.bi .max2 [.lit (.int 0), .bin .Sub (.idx (.var 2) (.bi .min2 [.bin .Add (.var 7) (.lit (.int 1)), .bin .Sub (.bi .len [.var 2]) (.lit (.int 1))])) (.lit (.int 1))])] [],
    .ife (.cmp .Lt (.var 5) (.lit (.int 9))) [.asg (.var 6) (.idx (.lit (.str "+- _.0123")) (.var 5))] [],
    .ife (.cmp .Eq (.var 4) (.lit (.int 0))) [.ret (some (.bin .Add (.bin .Add (.slc (.var 1) none (some (.var 8))) (.var 6)) (.slc (.var 1) (some (.var 8)) none)))] [],
    .ife (.cmp .Eq (.var 4) (.lit (.int 1))) [.ret (some (.bin .Add (.slc (.var 1) none (some (.var 8))) (.slc (.var 1) (some (.bin .Add (.var 8) (.lit (.int 1)))) none)))] [],
    .ife (.cmp .Eq (.var 4) (.lit (.int 2))) [.ret (some (.bin .Add (.bin .Add (.bin .Add (.slc (.var 1) none (some (.var 8))) (.slc (.var 1) (some (.bin .Add (.var 8) (.lit (.int 1)))) (some (.bin .Add (.var 8) (.lit (.int 2)))))) (.slc (.var 1) (some (.var 8)) (some (.bin .Add (.var 8) (.lit (.int 1)))))) (.slc (.var 1) (some (.bin .Add (.var 8) (.lit (.int 2)))) none)))] [],
    .ret (some (.bin .Add (.bin .Add (.slc (.var 1) none (some (.var 8))) (.var 6)) (.slc (.var 1) (some (.bin .Add (.var 8) (.lit (.int 1)))) none)))]⟩
def s__law_spoilt : Src := ⟨("_law_spoilt", none), "_law_spoilt", top 27, [], d__law_spoilt⟩
def d__law_spoilt_right : FDef := ⟨["_law_box_here", "_law_texts_here", "_law_turn"], [], ["_law_box_here", "_law_texts_here", "_law_turn", "_law_k", "_law_row", "_law_ends_here", "_law_odd_here", "_law_more", "_law_text_here"],
   [.asg (.tup [4, 5]) (.tup [.bm .join (.lit (.str "")) [.comp (.call "_law_frame" [.var 8] [] []) 8 false (.var 1) none], .call "_law_ends" [.var 1] [] []]),
    .forE 3 true (.ite (.cmp .Lt (.bi .len [.var 4]) (.lit (.int 900))) (.lit (.int 8)) (.lit (.int 3))) [.asg (.var 6) (.call "_law_spoilt" [.var 0, .var 4, .var 5, .cmp .Eq (.var 3) (.lit (.int 0))] [] []),
    .ife (.not (.call "_law_told" [.var 6, .call "_law_read" [.var 6] [] [], .bin .Mod (.bi .int [.bin .Add (.var 2) (.var 3)]) (.lit (.int 2))] [] [])) [.ret (some (.lit (.bl false)))] []],
    .forE 3 true (.ite (.cmp .Lt (.bi .len [.var 4]) (.lit (.int 900))) (.lit (.int 3)) (.lit (.int 1))) [.asg (.var 7) (.bin .Add (.var 4) (.call "_law_text" [.var 0] [] [])),
    .ife (.not (.call "_law_told" [.var 7, .call "_law_read" [.var 7] [] [], .bin .Mod (.bi .int [.bin .Add (.var 2) (.var 3)]) (.lit (.int 2))] [] [])) [.ret (some (.lit (.bl false)))] []],
    .ret (some (.lit (.bl true)))]⟩
def s__law_spoilt_right : Src := ⟨("_law_spoilt_right", none), "_law_spoilt_right", top 28, [], d__law_spoilt_right⟩
def d__law_refused : FDef := ⟨["_law_door", "_law_value", "_law_turn"], [], ["_law_door", "_law_value", "_law_turn", "e"],
   [.tryE [.ife (.cmp .Eq (.var 0) (.lit (.int 0))) [.ret (some (.lst [.lit (.str "told"), .ite (.cmp .Eq (.var 2) (.lit (.int 0))) (.call "framed" [.var 1] [] []) (.call "framed" [] ["text"] [.var 1])]))] [],
    .ret (some (.lst [.lit (.str "told"), .ite (.cmp .Eq (.var 2) (.lit (.int 0))) (.call "frames_in" [.var 1] [] []) (.call "frames_in" [] ["signs"] [.var 1])]))] [("InvalidText", some 3), ("InvalidSigns", some 3)] [[.ret (some (.ite (.exi "UnsaidError") (.lst [.lit (.int 0), .exf "given"]) (.lst [.lit (.str "odd"), .lit .non])))], [.ret (some (.ite (.exi "UnsaidError") (.lst [.lit (.int 1), .exf "given"]) (.lst [.lit (.str "odd"), .lit .non])))]]]⟩
def s__law_refused : Src := ⟨("_law_refused", none), "_law_refused", top 29, [], d__law_refused⟩
def d__law_odd : FDef := ⟨["_law_box_here", "_law_text_here"], [], ["_law_box_here", "_law_text_here", "_law_rows", "_law_kind", "_law_at"],
   [.asg (.tup [3, 4]) (.tup [.call "_law_take" [.var 0, .lit (.int 12)] [] [], .call "_law_take" [.var 0, .bin .Add (.bi .len [.var 1]) (.lit (.int 1))] [] []]),
    .asg (.var 2) (.lst [.bin .Add (.bin .Add (.slc (.var 1) none (some (.var 4))) (.lit (.str "\n"))) (.slc (.var 1) (some (.var 4)) none), .bin .Add (.var 1) (.lit (.str "\n")), .bin .Add (.lit (.str "\t")) (.var 1), .lit .non, .lit (.int 0), .lit (.bl true), .lst [.var 1], .tup [.var 1, .lit (.str "0000.")], .dic ["a"] [.var 1]]),
    .ret (some (.idx (.bin .Add (.var 2) (.lst [.lst [], .lit (.bl false), .neg (.lit (.int 1))])) (.var 3)))]⟩
def s__law_odd : Src := ⟨("_law_odd", none), "_law_odd", top 30, [], d__law_odd⟩
def d__law_doors : FDef := ⟨["_law_box_here", "_law_text_here", "_law_great"], [], ["_law_box_here", "_law_text_here", "_law_great", "_law_k", "_law_value", "_law_told_here", "_law_door", "_law_turn"],
   [.forE 3 true (.lit (.int 6)) [.asg (.tup [6, 7]) (.tup [.bin .Mod (.bi .int [.var 3]) (.lit (.int 2)), .call "_law_take" [.var 0, .lit (.int 2)] [] []]),
    .asg (.var 4) (.call "_law_odd" [.var 0, .ite (.cmp .Eq (.var 6) (.lit (.int 0))) (.var 1) (.bin .Add (.call "_law_frame" [.var 1] [] []) (.lit (.str "0000.")))] [] []),
    .ife (.and (.var 2) (.cmp .Eq (.var 3) (.lit (.int 4)))) [.asg (.var 4) (.slc (.bin .Mult (.call "_law_alphabet" [] [] []) (.lit (.int 107))) none (some (.lit (.int 10000))))] [],
    .asg (.var 5) (.call "_law_refused" [.var 6, .var 4, .var 7] [] []),
    .ife (.isi (.var 4) ["list"]) [.expr (.bm .append (.var 4) [.lit (.str "more")])] [],
    .ife (.cmp .NotEq (.bi .repr [.var 5]) (.bi .repr [.lst [.var 6, .var 4]])) [.ret (some (.lit (.bl false)))] []],
    .ret (some (.call "_law_equal" [.lst [.call "framed" [.var 1] [] [], .call "frames_in" [.lit (.str "")] [] []], .lst [.call "_law_frame" [.var 1] [] [], .tup [.lst [], .lit (.int 0)]]] [] []))]⟩
def s__law_doors : Src := ⟨("_law_doors", none), "_law_doors", top 31, [], d__law_doors⟩
def d__law_many_right : FDef := ⟨["_law_box_here"], [], ["_law_box_here", "_law_whole", "_law_many", "_law_text_here", "_law_less", "_law_row", "_law_size"],
   [.asg (.tup [2, 3, 4]) (.tup [.idx (.lst [.lit (.int 130), .lit (.int 700), .lit (.int 1100), .lit (.int 1900)]) (.call "_law_take" [.var 0, .lit (.int 4)] [] []), .idx (.lst [.lit (.str ""), .lit (.str "0"), .lit (.str "."), .lit (.str "a")]) (.call "_law_take" [.var 0, .lit (.int 4)] [] []), .call "_law_take" [.var 0, .lit (.int 97)] [] []]),
    .asg (.tup [5, 6]) (.tup [.bin .Mult (.call "_law_frame" [.var 3] [] []) (.var 2), .bin .Add (.bi .len [.var 3]) (.lit (.int 5))]),
    .asg (.var 1) (.bin .FloorDiv (.bin .Sub (.bin .Mult (.var 2) (.var 6)) (.var 4)) (.var 6)),
    .ret (some (.call "_law_told" [.slc (.var 5) none (some (.bin .Sub (.bin .Mult (.var 2) (.var 6)) (.var 4))), .tup [.bin .Mult (.lst [.var 3]) (.var 1), .bin .Mult (.var 1) (.var 6)], .call "_law_take" [.var 0, .lit (.int 2)] [] []] [] []))]⟩
def s__law_many_right : Src := ⟨("_law_many_right", none), "_law_many_right", top 32, [], d__law_many_right⟩
def d__law_right : FDef := ⟨["_law_box_here", "_law_great"], [], ["_law_box_here", "_law_great", "_law_turn", "_law_texts_here"],
   [.asg (.tup [2, 3]) (.tup [.call "_law_take" [.var 0, .lit (.int 2)] [] [], .call "_law_texts" [.var 0, .var 1] [] []]),
    .ife (.or (.not (.call "_law_cut_right" [.var 0, .var 3, .var 2] [] [])) (.not (.call "_law_spoilt_right" [.var 0, .var 3, .var 2] [] []))) [.ret (some (.lit (.bl false)))] [],
    .ret (some (.call "_law_doors" [.var 0, .call "_law_text" [.var 0] [] [], .var 1] [] []))]⟩
def s__law_right : Src := ⟨("_law_right", none), "_law_right", top 33, [], d__law_right⟩
def d_law : FDef := ⟨["_law_script"], [], ["_law_script", "_law_k", "_law_box_here"],
   [.forE 1 true (.bi .max2 [.lit (.int 2), .bi .min2 [.lit (.int 4), .bi .len [.var 0]]]) [.asg (.var 2) (.call "_law_box" [.call "_law_cell" [.var 0, .var 1] [] []] [] []),
    .ife (.or (.not (.call "_law_right" [.var 2, .and (.cmp .Eq (.call "_law_take" [.var 2, .lit (.int 4)] [] []) (.lit (.int 3))) (.cmp .Eq (.var 1) (.lit (.int 0)))] [] [])) (.and (.cmp .Eq (.var 1) (.lit (.int 1))) (.not (.call "_law_many_right" [.var 2] [] [])))) [.ret (some (.lit (.bl false)))] []],
    .ret (some (.lit (.bl true)))]⟩
def s_law : Src := ⟨("law", none), "law", top 34, [], d_law⟩
def e_InvalidText : ErS := ⟨"InvalidText", "InvalidText.__init__", inCls 2 0, ["given"]⟩
def e_InvalidSigns : ErS := ⟨"InvalidSigns", "InvalidSigns.__init__", inCls 3 0, ["given"]⟩
def srcs : List Src := [s_is_signs, s_framed, s_frame_at, s_frames_in, s__law_cell, s__law_box, s__law_take, s__law_alphabet, s__law_frame, s__law_text, s__law_texts, s__law_read, s__law_equal, s__law_told, s__law_ends, s__law_cuts, s__law_cut_right, s__law_spoilt, s__law_spoilt_right, s__law_refused, s__law_odd, s__law_doors, s__law_many_right, s__law_right, s_law]
def ers : List ErS := [e_InvalidText, e_InvalidSigns]
def T : Prog := ⟨srcs.map fun s => (s.fid, s.d), [], [], [], ers.map fun s => (s.C, s.fs), ["UnsaidError", "InvalidText", "InvalidSigns"], [("InvalidText", "UnsaidError"), ("InvalidSigns", "UnsaidError")], [("FIGURES", .int 4), ("MOST_SIGNS", .int 9999), ("DIGITS", .str "0123456789")]⟩
def par : Str := "UnsaidError"
theorem c_is_signs : compSs fuelC (ctOf T s_is_signs.d.N (L2.defScope s_is_signs.st)) (L2.defBody s_is_signs.st) = some s_is_signs.d.body := by kernel_rfl
theorem c_framed : compSs fuelC (ctOf T s_framed.d.N (L2.defScope s_framed.st)) (L2.defBody s_framed.st) = some s_framed.d.body := by kernel_rfl
theorem c_frame_at : compSs fuelC (ctOf T s_frame_at.d.N (L2.defScope s_frame_at.st)) (L2.defBody s_frame_at.st) = some s_frame_at.d.body := by kernel_rfl
theorem c_frames_in : compSs fuelC (ctOf T s_frames_in.d.N (L2.defScope s_frames_in.st)) (L2.defBody s_frames_in.st) = some s_frames_in.d.body := by kernel_rfl
theorem c__law_cell : compSs fuelC (ctOf T s__law_cell.d.N (L2.defScope s__law_cell.st)) (L2.defBody s__law_cell.st) = some s__law_cell.d.body := by kernel_rfl
theorem c__law_box : compSs fuelC (ctOf T s__law_box.d.N (L2.defScope s__law_box.st)) (L2.defBody s__law_box.st) = some s__law_box.d.body := by kernel_rfl
theorem c__law_take : compSs fuelC (ctOf T s__law_take.d.N (L2.defScope s__law_take.st)) (L2.defBody s__law_take.st) = some s__law_take.d.body := by kernel_rfl
theorem c__law_alphabet : compSs fuelC (ctOf T s__law_alphabet.d.N (L2.defScope s__law_alphabet.st)) (L2.defBody s__law_alphabet.st) = some s__law_alphabet.d.body := by kernel_rfl
theorem c__law_frame : compSs fuelC (ctOf T s__law_frame.d.N (L2.defScope s__law_frame.st)) (L2.defBody s__law_frame.st) = some s__law_frame.d.body := by kernel_rfl
theorem c__law_text : compSs fuelC (ctOf T s__law_text.d.N (L2.defScope s__law_text.st)) (L2.defBody s__law_text.st) = some s__law_text.d.body := by kernel_rfl
theorem c__law_texts : compSs fuelC (ctOf T s__law_texts.d.N (L2.defScope s__law_texts.st)) (L2.defBody s__law_texts.st) = some s__law_texts.d.body := by kernel_rfl
theorem c__law_read : compSs fuelC (ctOf T s__law_read.d.N (L2.defScope s__law_read.st)) (L2.defBody s__law_read.st) = some s__law_read.d.body := by kernel_rfl
theorem c__law_equal : compSs fuelC (ctOf T s__law_equal.d.N (L2.defScope s__law_equal.st)) (L2.defBody s__law_equal.st) = some s__law_equal.d.body := by kernel_rfl
theorem c__law_told : compSs fuelC (ctOf T s__law_told.d.N (L2.defScope s__law_told.st)) (L2.defBody s__law_told.st) = some s__law_told.d.body := by kernel_rfl
theorem c__law_ends : compSs fuelC (ctOf T s__law_ends.d.N (L2.defScope s__law_ends.st)) (L2.defBody s__law_ends.st) = some s__law_ends.d.body := by kernel_rfl
theorem c__law_cuts : compSs fuelC (ctOf T s__law_cuts.d.N (L2.defScope s__law_cuts.st)) (L2.defBody s__law_cuts.st) = some s__law_cuts.d.body := by kernel_rfl
theorem c__law_cut_right : compSs fuelC (ctOf T s__law_cut_right.d.N (L2.defScope s__law_cut_right.st)) (L2.defBody s__law_cut_right.st) = some s__law_cut_right.d.body := by kernel_rfl
theorem c__law_spoilt : compSs fuelC (ctOf T s__law_spoilt.d.N (L2.defScope s__law_spoilt.st)) (L2.defBody s__law_spoilt.st) = some s__law_spoilt.d.body := by kernel_rfl
theorem c__law_spoilt_right : compSs fuelC (ctOf T s__law_spoilt_right.d.N (L2.defScope s__law_spoilt_right.st)) (L2.defBody s__law_spoilt_right.st) = some s__law_spoilt_right.d.body := by kernel_rfl
theorem c__law_refused : compSs fuelC (ctOf T s__law_refused.d.N (L2.defScope s__law_refused.st)) (L2.defBody s__law_refused.st) = some s__law_refused.d.body := by kernel_rfl
theorem c__law_odd : compSs fuelC (ctOf T s__law_odd.d.N (L2.defScope s__law_odd.st)) (L2.defBody s__law_odd.st) = some s__law_odd.d.body := by kernel_rfl
theorem c__law_doors : compSs fuelC (ctOf T s__law_doors.d.N (L2.defScope s__law_doors.st)) (L2.defBody s__law_doors.st) = some s__law_doors.d.body := by kernel_rfl
theorem c__law_many_right : compSs fuelC (ctOf T s__law_many_right.d.N (L2.defScope s__law_many_right.st)) (L2.defBody s__law_many_right.st) = some s__law_many_right.d.body := by kernel_rfl
theorem c__law_right : compSs fuelC (ctOf T s__law_right.d.N (L2.defScope s__law_right.st)) (L2.defBody s__law_right.st) = some s__law_right.d.body := by kernel_rfl
theorem c_law : compSs fuelC (ctOf T s_law.d.N (L2.defScope s_law.st)) (L2.defBody s_law.st) = some s_law.d.body := by kernel_rfl
theorem txs : Txs T par srcs ers where
  fns := rfl
  exf := rfl
  ok := by decide +kernel
  eok := by decide +kernel
  cmp := by
    intro s hs
    simp only [srcs, List.mem_cons, List.not_mem_nil, or_false] at hs
    rcases hs with rfl | rfl | rfl | rfl | rfl | rfl | rfl | rfl | rfl | rfl | rfl | rfl | rfl | rfl | rfl | rfl | rfl | rfl | rfl | rfl | rfl | rfl | rfl | rfl | rfl
    · exact c_is_signs
    · exact c_framed
    · exact c_frame_at
    · exact c_frames_in
    · exact c__law_cell
    · exact c__law_box
    · exact c__law_take
    · exact c__law_alphabet
    · exact c__law_frame
    · exact c__law_text
    · exact c__law_texts
    · exact c__law_read
    · exact c__law_equal
    · exact c__law_told
    · exact c__law_ends
    · exact c__law_cuts
    · exact c__law_cut_right
    · exact c__law_spoilt
    · exact c__law_spoilt_right
    · exact c__law_refused
    · exact c__law_odd
    · exact c__law_doors
    · exact c__law_many_right
    · exact c__law_right
    · exact c_law
  err := by decide +kernel
  ne := fun _ => by decide +kernel
end K05
set_option Elab.async false
set_option linter.all false
set_option maxRecDepth 100000
set_option maxHeartbeats 0
namespace K05
open PySem PySem.W PySem.Calls PyProof.Rows Mir
abbrev R : OpenRow := OpenLaw.row PySem.Challenge.rw_neverunsaid_k05_frames_and_cuts
abbrev qv : Program := view R.prog [34]
def fnA : List He5.DefA := fnAll T srcs ers
abbrev hk : Hook := hookM 6 T par fnA
def ob (s : SharedT) : He.AlD := obsMG 6 T par fnA (HandSHeadRun.getT s)
theorem ob_eq (s : SharedT) : ob s = hk.obs s.abs := obsMG_eq (HandSHeadRun.getT_eq s)
def names : List PySem.Str := srcs.filterMap (fun s => if s.fid.2.isNone && s.fid.1 != ("law" : PySem.Str) then some s.fid.1 else none) ++ T.clss ++ T.errs ++ T.glb.map (·.1)
theorem run (w : World) : HandSHeadRun.RunEq R qv hk ob 20000 names w := by
  intro os
  kernel_rfl
end K05
set_option Elab.async false
set_option linter.all false
set_option maxRecDepth 100000
set_option maxHeartbeats 4000000
/-! MWp: reasoning about what the mirror computes. -/
namespace Mir
open PySem L2
def wp {α : Type} (m : M α) (Q : α → Wd → Prop) (E : Exn → Wd → Prop) (w : Wd) : Prop := match m w with
  | .ok a w' => Q a w'
  | .err e w' => E e w'
  | .bad => False
abbrev NoE : Exn → Wd → Prop := fun _ _ => False
/-- the outcomes of statements -/
structure Ds where
  nx : Env → Wd → Prop
  rt : MV → Wd → Prop
  ex : Exn → Env → Wd → Prop
  bk : Env → Wd → Prop
  ct : Env → Wd → Prop
def Ds.at (D : Ds) : Fl → Wd → Prop
  | .nx S => D.nx S
  | .rt v => D.rt v
  | .ex e S => D.ex e S
  | .bk S => D.bk S
  | .ct S => D.ct S
abbrev xw (m : M Fl) (D : Ds) (w : Wd) : Prop := wp m D.at (fun _ _ => False) w
section
variable {α β : Type} {m : M α} {Q Q' : α → Wd → Prop} {E E' : Exn → Wd → Prop} {w w' : Wd}
theorem wp_mono (h : wp m Q E w) (hq : ∀ a w', Q a w' → Q' a w') (he : ∀ e w', E e w' → E' e w') : wp m Q' E' w := by
  unfold wp at h ⊢
  split at h
  · exact hq _ _ h
  · exact he _ _ h
  · exact h
theorem wp_ok {a : α} (h : m w = .ok a w') : wp m Q E w = Q a w' := by unfold wp; rw [h]
theorem wp_of {a : α} (h : m w = .ok a w') (q : Q a w') : wp m Q E w := by rw [wp_ok h]; exact q
theorem of_wp (h : wp m Q NoE w) : ∃ a w', m w = .ok a w' ∧ Q a w' := by
  unfold wp at h
  split at h
  · next a w' e => exact ⟨a, w', e, h⟩
  · exact h.elim
  · exact h.elim
theorem wp_ret (a : α) : wp (ret a) Q E w = Q a w := rfl
theorem wp_stuck : wp (stuck : M α) Q E w = False := rfl
theorem wp_bnd {R : β → Wd → Prop} (f : α → M β) : wp (bnd m f) R E w = wp m (fun a w' => wp (f a) R E w') E w := by
  unfold wp bnd
  cases m w <;> rfl
theorem wp_ite {c : Bool} (a b : M α) : wp (if c = true then a else b) Q E w = if c = true then wp a Q E w else wp b Q E w := by cases c <;> rfl
theorem wp_if {c : Prop} [Decidable c] (a b : M α) : wp (if c then a else b) Q E w = if c then wp a Q E w else wp b Q E w := by split <;> rfl
theorem wp_alloc {R : MV → Wd → Prop} (c : Cell) : wp (alloc c) R E w = R (.ref w.length) (w ++ [c]) := rfl
theorem wp_alloc' {R : MV → Wd → Prop} (c : Cell) : wp (fun w => alloc c w) R E w = R (.ref w.length) (w ++ [c]) := rfl
variable {D : Ds} {S : Env}
theorem xw_bnd (f : α → M Fl) : xw (bndX S m f) D w = wp m (fun a w' => xw (f a) D w') (fun e w' => D.ex e S w') w := by
  unfold xw wp bndX
  cases m w <;> rfl
theorem xw_ret (f : Fl) : xw (ret f) D w = D.at f w := rfl
end
section
variable {c : Calls} {cur : Option Exn} {D : Ds} {S : Env} {w : Wd}
theorem xw_nil : xw (exeL c cur [] S) D w = D.nx S w := by
  unfold exeL
  rfl
theorem xw_cons (s : Sx) (r : List Sx) : xw (exeL c cur (s :: r) S) D w = xw (exe c cur s S) { D with nx := fun S' w' => xw (exeL c cur r S') D w' } w := by
  unfold xw wp
  conv => lhs; unfold exeL
  cases exe c cur s S w with
  | ok f w' => cases f <;> rfl
  | err _ _ => rfl
  | bad => rfl
end
/-- a def of the table, called -/
theorem wp_call {T : Prog} {n : Nat} {f : Fid} {vs as : List MV} {kvs : List (Str × MV)} {d : FDef} {Q : MV → Wd → Prop} {E : Exn → Wd → Prop} {w : Wd} (hd : T.fns.lookup f = some d) (hb : bindL d.ps vs kvs d.dfl = some as)
    (h : xw (exeL (T.calls (callF T n)) none d.body (startS d.N as)) ⟨fun _ => Q .non, Q, fun e _ => E e, fun _ _ => False, fun _ _ => False⟩ w) : wp (callF T (n + 1) f vs kvs) Q E w := by
  unfold callF
  rw [hd]
  dsimp only
  rw [hb]
  dsimp only
  unfold wp runD
  unfold xw wp at h
  cases e : exeL (T.calls (callF T n)) none d.body (startS d.N as) w with
  | ok fl w' =>
    rw [e] at h
    cases fl with
    | nx S => exact h
    | rt v => exact h
    | ex x S => exact h
    | bk S => exact h.elim
    | ct S => exact h.elim
  | err x w' => rw [e] at h; exact h.elim
  | bad => rw [e] at h; exact h.elim
/-! ### for, comprehensions -/
theorem wp_for {it : Itm} {body : MV → Env → M Fl} {D : Ds} (I : Nat → Env → Wd → Prop) : ∀ (k i : Nat) (S : Env) (w : Wd), i + k = it.len → I i S w →
    (∀ i S w, i < it.len → I i S w → ∃ v, it.at w i = some v ∧ xw (body v S) { D with nx := I (i + 1), ct := I (i + 1), bk := D.nx } w) →
    (∀ S w, I it.len S w → it.fin w = true ∧ D.nx S w) → xw (forL it body k i S) D w
  | 0, i, S, w, hk, hi, hs, he => by
    have e : i = it.len := by omega
    subst e
    obtain ⟨h1, h2⟩ := he S w hi
    unfold forL
    unfold xw wp
    simp only [h1, if_true]
    exact h2
  | k + 1, i, S, w, hk, hi, hs, he => by
    obtain ⟨v, h1, h2⟩ := hs i S w (by omega) hi
    unfold forL
    unfold xw wp at h2 ⊢
    simp only [h1]
    cases e : body v S w with
    | ok fl w' =>
      rw [e] at h2
      cases fl with
      | nx S' => exact wp_for I k (i + 1) S' w' (by omega) h2 hs he
      | ct S' => exact wp_for I k (i + 1) S' w' (by omega) h2 hs he
      | bk S' => exact h2
      | rt u => exact h2
      | ex x S' => exact h2
    | err x w' => rw [e] at h2; exact h2.elim
    | bad => rw [e] at h2; exact h2.elim
/-- [.. for .. in it if ..]: the list grows at n = the world's length ahead of it -/
theorem wp_comp {it : Itm} {body : MV → M (Option MV)} {Q : MV → Wd → Prop} {E : Exn → Wd → Prop} {w : Wd} (I : Nat → List MV → Wd → Prop) (h0 : I 0 [] (w ++ [.lst []]))
    (hs : ∀ i acc u, i < it.len → I i acc u → ∃ v, it.at u i = some v ∧ wp (body v) (fun o u' => match o with
      | none => I (i + 1) acc u'
      | some x => u'[w.length]? = some (.lst acc) ∧ acc.length < sizeLine ∧ I (i + 1) (acc ++ [x]) (u'.set w.length (.lst (acc ++ [x])))) NoE u)
    (he : ∀ acc u, I it.len acc u → it.fin u = true ∧ Q (.ref w.length) u) : wp (compM it body) Q E w := by
  have go : ∀ (k i : Nat) (acc : List MV) (u : Wd), i + k = it.len → I i acc u → ∃ acc' u', compL w.length it body k i u = .ok () u' ∧ I it.len acc' u' := by
    intro k
    induction k with
    | zero =>
      intro i acc u hk hi
      have e : i = it.len := by omega
      subst e
      refine ⟨acc, u, ?_, hi⟩
      unfold compL
      simp only [(he acc u hi).1, if_true]
    | succ k ih =>
      intro i acc u hk hi
      obtain ⟨v, h1, h2⟩ := hs i acc u (by omega) hi
      obtain ⟨o, u', e, h3⟩ := of_wp h2
      unfold compL
      simp only [h1, e]
      cases o with
      | none => exact ih (i + 1) acc u' (by omega) h3
      | some x =>
        obtain ⟨h4, h5, h6⟩ := h3
        simp only [h4, h5, if_true]
        exact ih (i + 1) _ _ (by omega) h6
  obtain ⟨acc, u, e, hi⟩ := go it.len 0 [] _ (by omega) h0
  unfold wp compM
  simp only [e]
  exact (he acc u hi).2
end Mir
set_option Elab.async false
set_option linter.all false
set_option maxRecDepth 100000
set_option maxHeartbeats 4000000
/-! MWp2: the mirror's forms, one after the other. -/
namespace Mir
open PySem L2
theorem mEqs (c : Calls) (cur : Option Exn) :
    (∀ v, den c cur (.lit v) = fun _ => ret v) ∧
    (∀ op a b, den c cur (.bin op a b) = fun S => bnd (den c cur a S) fun v => bnd (den c cur b S) fun u => binM op v u) ∧
    (∀ a, den c cur (.neg a) = fun S => bnd (den c cur a S) fun v => unM .USub v) ∧
    (∀ a, den c cur (.not a) = fun S => bnd (den c cur a S) fun v => unM .Not v) ∧
    (∀ op a b, den c cur (.cmp op a b) = fun S => bnd (den c cur a S) fun v => bnd (den c cur b S) fun u => cmpM op v u) ∧
    (∀ o p a b d, den c cur (.chain o p a b d) = fun S => bnd (den c cur a S) fun v => bnd (den c cur b S) fun u => chnM o p (den c cur d) S v u) ∧
    (∀ a b, den c cur (.and a b) = fun S => bnd (den c cur a S) fun v => bnd (truM v) fun t => if t = true then den c cur b S else ret v) ∧
    (∀ a b, den c cur (.or a b) = fun S => bnd (den c cur a S) fun v => bnd (truM v) fun t => if t = true then ret v else den c cur b S) ∧
    (∀ d a b, den c cur (.ite d a b) = fun S => bnd (bnd (den c cur d S) truM) fun t => if t = true then den c cur a S else den c cur b S) ∧
    (∀ es, den c cur (.lst es) = fun S => bnd (denL c cur es S) fun vs => if vs.length ≤ sizeLine then alloc (.lst vs) else stuck) ∧
    (∀ es, den c cur (.tup es) = fun S => bnd (denL c cur es S) fun vs => if vs.length ≤ sizeLine then ret (.tup vs) else stuck) ∧
    (∀ a i, den c cur (.idx a i) = fun S => bnd (den c cur a S) fun v => bnd (den c cur i S) fun u => idxM v u) ∧
    (∀ a lo hi, den c cur (.slc a lo hi) = fun S => bnd (den c cur a S) fun v => bnd (denO c cur lo S) fun l => bnd (partM l) fun lo => bnd (denO c cur hi S) fun h => bnd (partM h) fun hi => slcM lo hi v) ∧
    (∀ b es, den c cur (.bi b es) = fun S => bnd (denL c cur es S) fun vs => biM b vs) ∧
    (∀ e cs, den c cur (.isi e cs) = fun S => bnd (den c cur e S) fun v => isiM cs v) ∧
    (∀ m o es, den c cur (.bm m o es) = fun S => bnd (den c cur o S) fun v => bnd (bmChk m v) fun _ => bnd (denL c cur es S) fun vs => bmM m v vs) ∧
    (∀ f es ks kes, den c cur (.call f es ks kes) = fun S => bnd (denL c cur es S) fun vs => bnd (denL c cur kes S) fun us => c.fn (f, none) vs (ks.zip us)) ∧
    (∀ m o es ks kes, den c cur (.mth m o es ks kes) = fun S => bnd (den c cur o S) fun v => bnd (clsM c m v) fun C => bnd (denL c cur es S) fun vs => bnd (denL c cur kes S) fun us => mthM c m v vs (ks.zip us) C) ∧
    (∀ C es, den c cur (.mk C es) = fun S => bnd (denL c cur es S) fun vs => mkM c C vs) ∧
    (∀ o f, den c cur (.att o f) = fun S => bnd (den c cur o S) fun v => attM c f v) ∧
    (∀ elt i rng it cond, den c cur (.comp elt i rng it cond) = fun S => bnd (bnd (den c cur it S) fun v => if rng = true then rngM v else itmM v) fun I => compM I fun x =>
      bnd (denT c cur cond (S.set i (some x))) fun t => if t = true then bnd (den c cur elt (S.set i (some x))) fun y => ret (some y) else ret none) ∧
    (denL c cur [] = fun _ => ret []) ∧
    (∀ e es, denL c cur (e :: es) = fun S => bnd (den c cur e S) fun v => bnd (denL c cur es S) fun vs => ret (v :: vs)) ∧
    (denO c cur none = fun _ => ret none) ∧
    (∀ e, denO c cur (some e) = fun S => bnd (den c cur e S) fun v => ret (some v)) ∧
    (denT c cur none = fun _ => ret true) ∧
    (∀ e, denT c cur (some e) = fun S => bnd (den c cur e S) truM) ∧
    (∀ t e, exe c cur (.asg t e) = fun S => bndX S (den c cur e S) fun v => bndX S (asgM c cur t v S) fun S' => ret (.nx S')) ∧
    (∀ i, asgM c cur (.var i) = fun v S => ret (S.set i (some v))) ∧
    (∀ is, asgM c cur (.tup is) = fun v S => bnd (itemsT v) fun xs => if xs.length = is.length then ret (setAll S is xs) else stuck) ∧
    (∀ o i, asgM c cur (.sub o i) = fun v S => bnd (den c cur o S) fun p => bnd (den c cur i S) fun k => bnd (setM p k v) fun _ => ret S) ∧
    (∀ o f, asgM c cur (.att o f) = fun v S => bnd (den c cur o S) fun p => bnd (attS c f p v) fun _ => ret S) ∧
    (∀ e, exe c cur (.expr e) = fun S => bndX S (den c cur e S) fun _ => ret (.nx S)) ∧
    (exe c cur (.ret none) = fun _ => ret (.rt .non)) ∧
    (∀ e, exe c cur (.ret (some e)) = fun S => bndX S (den c cur e S) fun v => ret (.rt v)) ∧
    (∀ d a b, exe c cur (.ife d a b) = fun S => bndX S (bnd (den c cur d S) truM) fun t => if t = true then exeL c cur a S else exeL c cur b S) ∧
    (∀ i rng it b, exe c cur (.forE i rng it b) = fun S => bndX S (bnd (den c cur it S) fun v => if rng = true then rngM v else itmM v) fun I => forL I (fun x S => exeL c cur b (S.set i (some x))) I.len 0 S) ∧
    (exe c cur .brk = fun S => ret (.bk S)) ∧ (exe c cur .cnt = fun S => ret (.ct S)) ∧ (exe c cur .pas = fun S => ret (.nx S)) :=
  ⟨den_lit, den_bin, den_neg, den_not, den_cmp, den_chain, den_and, den_or, den_ite, den_lst, den_tup, den_idx, den_slc, den_bi, den_isi, den_bm, den_call, den_mth, den_mk, den_att, den_comp, denL_nil, denL_cons, denO_none, denO_some, denT_none, denT_some,
    exe_asg, asg_var, asg_tup, asg_sub, asg_att, exe_expr, exe_retN, exe_ret, exe_ife, exe_for, exe_brk, exe_cnt, exe_pas⟩
theorem den_v {c : Calls} {cur : Option Exn} {i : Nat} {S : Env} {v : MV} (h : S[i]? = some (some v)) : den c cur (.var i) S = ret v := by
  unfold den
  rw [h]
section
variable {Q : MV → Wd → Prop} {E : Exn → Wd → Prop} {w : Wd} {c : Calls} {cur : Option Exn} {S : Env}
theorem wp_var (i : Nat) : wp (den c cur (.var i) S) Q E w = (match S[i]? with
    | some (some v) => Q v w
    | _ => False) := by
  unfold den
  cases S[i]? with
  | none => rfl
  | some o => cases o <;> rfl
theorem wp_idx (n : Nat) (i : Int) : wp (idxM (.ref n) (.int i)) Q E w = (match w[n]? with
    | some (.lst xs) => (match atI xs i with
      | some v => Q v w
      | none => False)
    | some (.rdl xs) => (match atI xs i with
      | some v => Q v w
      | none => False)
    | _ => False) := by
  unfold wp idxM
  dsimp only
  cases w[n]? with
  | none => rfl
  | some x =>
    cases x with
    | lst xs => dsimp only; cases atI xs i <;> rfl
    | rdl xs => dsimp only; cases atI xs i <;> rfl
    | _ => rfl
theorem wp_set {R : Unit → Wd → Prop} (n : Nat) (k : Int) (v : MV) : wp (setM (.ref n) (.int k) v) R E w = (match w[n]? with
    | some (.lst xs) => (match ixN xs.length k with
      | some j => R () (w.set n (.lst (xs.set j v)))
      | none => False)
    | _ => False) := by
  unfold wp setM
  dsimp only
  cases w[n]? with
  | none => rfl
  | some x =>
    cases x with
    | lst xs => dsimp only; cases ixN xs.length k <;> rfl
    | _ => rfl
theorem wp_len (n : Nat) : wp (biM .len [.ref n]) Q E w = (match w[n]? with
    | some (.lst xs) => Q (.int xs.length) w
    | some (.rdl xs) => Q (.int xs.length) w
    | _ => False) := by
  unfold wp biM
  dsimp only [bnd, itemsM]
  cases w[n]? with
  | none => rfl
  | some x => cases x <;> rfl
theorem wp_lenS (s : Str) : wp (biM .len [.str s]) Q E w = (s.length ≤ sizeLine ∧ Q (.int s.length) w) := by
  show wp (if s.length ≤ sizeLine then ret (.int s.length) else stuck) Q E w = _
  rw [wp_if, wp_ret, wp_stuck]
  split
  · next h => simp only [h, true_and]
  · next h => simp only [h, false_and]
theorem wp_tru (n : Nat) {R : Bool → Wd → Prop} : wp (truM (.ref n)) R E w = (match w[n]? with
    | some (.lst xs) => R (!xs.isEmpty) w
    | some (.rdl xs) => R (!xs.isEmpty) w
    | some (.dic kvs) => R (!kvs.isEmpty) w
    | _ => False) := by
  unfold wp truM
  dsimp only
  cases w[n]? with
  | none => rfl
  | some x => cases x <;> rfl
theorem opEqs :
    (∀ i j, binM .Add (.int i) (.int j) = ret (.int (i + j))) ∧
    (∀ i j, binM .Sub (.int i) (.int j) = ret (.int (i - j))) ∧
    (∀ i j, cmpM .Lt (.int i) (.int j) = ret (.bl (decide (i < j)))) ∧
    (∀ i j, cmpM .LtE (.int i) (.int j) = ret (.bl (decide (i ≤ j)))) ∧
    (∀ i j, cmpM .Gt (.int i) (.int j) = ret (.bl (decide (j < i)))) ∧
    (∀ i j, cmpM .GtE (.int i) (.int j) = ret (.bl (decide (j ≤ i)))) ∧
    (∀ i, biM .int [.int i] = ret (.int i)) ∧
    (∀ i, biM .abs [.int i] = ret (.int (if i < 0 then -i else i))) ∧
    (∀ i j, biM .min2 [.int i, .int j] = ret (.int (if j < i then j else i))) ∧
    (∀ i j, biM .max2 [.int i, .int j] = ret (.int (if j > i then j else i))) ∧
    (∀ i, unM .USub (.int i) = ret (.int (-i))) ∧
    (∀ b, truM (.bl b) = ret b) ∧ (∀ i, truM (.int i) = ret (i != 0)) ∧ (truM .non = ret false) ∧ (∀ xs, truM (.tup xs) = ret (!xs.isEmpty)) ∧
    (∀ xs, itemsT (.tup xs) = ret xs) ∧ (∀ v, unM .Not v = bnd (truM v) fun b => ret (.bl (!b))) := by
  refine ⟨fun _ _ => rfl, fun _ _ => rfl, fun _ _ => rfl, fun _ _ => rfl, fun _ _ => rfl, fun _ _ => rfl, fun _ => rfl, fun _ => rfl, fun _ _ => rfl, fun _ _ => rfl, fun _ => rfl, fun _ => rfl, fun _ => rfl, rfl, fun _ => rfl, fun _ => rfl, unM_not⟩
theorem wp_mod (i j : Int) : wp (binM .Mod (.int i) (.int j)) Q E w = (0 < j ∧ Q (.int (i % j)) w) := by
  show wp (if 0 < j then ret (.int (i % j)) else stuck) Q E w = _
  rw [wp_if, wp_ret, wp_stuck]
  split <;> simp [*]
theorem wp_fdiv (i j : Int) : wp (binM .FloorDiv (.int i) (.int j)) Q E w = ((0 < j ∧ j.natAbs.log2 < 9000) ∧ Q (.int (i / j)) w) := by
  show wp (if 0 < j ∧ j.natAbs.log2 < 9000 then ret (.int (i / j)) else stuck) Q E w = _
  rw [wp_if, wp_ret, wp_stuck]
  split
  · next h => simp [h]
  · next h => simp only [h, false_and]
theorem wp_pow (i j : Int) : wp (binM .Pow (.int i) (.int j)) Q E w = ((0 ≤ j ∧ j ≤ 1000000 ∧ i.natAbs < 2 ^ 64) ∧ Q (.int (i ^ j.toNat)) w) := by
  show wp (if 0 ≤ j ∧ j ≤ 1000000 ∧ i.natAbs < 2 ^ 64 then ret (.int (i ^ j.toNat)) else stuck) Q E w = _
  rw [wp_if, wp_ret, wp_stuck]
  split
  · next h => simp [h]
  · next h => simp only [h, false_and]
theorem wp_mul (i j : Int) (h : mulOkB i j = true) : wp (binM .Mult (.int i) (.int j)) Q E w = Q (.int (i * j)) w := by
  show wp (if mulOkB i j = true then ret (.int (i * j)) else _) Q E w = _
  rw [if_pos h]
  rfl
end
end Mir
set_option Elab.async false
set_option linter.all false
set_option maxRecDepth 100000
set_option maxHeartbeats 4000000
/-! MLaw: what all laws share: the drawing of numbers, the loop over the cells. -/
namespace Mir
open PySem L2
theorem fn_eq {T : Prog} (f) : (T.calls f).fn = f := rfl
/-- the world goes on, all but ns stays -/
structure Fr (w w' : Wd) (ns : List Nat) : Prop where
  le : w.length ≤ w'.length
  st : ∀ i, i < w.length → i ∉ ns → w'[i]? = w[i]?
theorem Fr.refl {w : Wd} {ns : List Nat} : Fr w w ns := ⟨Nat.le_refl _, fun _ _ _ => rfl⟩
theorem Fr.trans {a b c : Wd} {ns ms : List Nat} (h : Fr a b ns) (g : Fr b c ms) (s : ∀ i, i < a.length → i ∈ ms → i ∈ ns) : Fr a c ns :=
  ⟨Nat.le_trans h.le g.le, fun i hi hn => (g.st i (Nat.lt_of_lt_of_le hi h.le) fun z => hn (s i hi z)).trans (h.st i hi hn)⟩
theorem Fr.sub {a b : Wd} {ns ms : List Nat} (h : Fr a b ns) (s : ∀ i, i < a.length → i ∈ ns → i ∈ ms) : Fr a b ms := ⟨h.le, fun i hi hn => h.st i hi fun z => hn (s i hi z)⟩
theorem Fr.set {w : Wd} {b : Nat} {c : Cell} : Fr w (w.set b c) [b] := ⟨by simp, fun i _ h => by rw [List.getElem?_set_ne (by simpa using Ne.symm (by simpa using h))]⟩
theorem Fr.push {w : Wd} {c : Cell} {ns : List Nat} : Fr w (w ++ [c]) ns := ⟨by simp, fun i hi _ => List.getElem?_append_left hi⟩
theorem Fr.at {w w' : Wd} {ns : List Nat} {i : Nat} {c : Cell} (h : Fr w w' ns) (e : w[i]? = some c) (hn : i ∉ ns) : w'[i]? = some c := (h.st i (List.getElem?_eq_some_iff.mp e).1 hn).trans e
theorem lt_of_at {w : Wd} {i : Nat} {c : Cell} (e : w[i]? = some c) : i < w.length := (List.getElem?_eq_some_iff.mp e).1
theorem at_push {w : Wd} {c : Cell} : (w ++ [c])[w.length]? = some c := by simp
def Box (w : Wd) (b : Nat) (K : Nat) : Prop := ∃ (a c k : Int) (g : Bool), w[b]? = some (.lst [.int a, .bl g, .int c, .int k]) ∧ 0 ≤ a ∧ 0 ≤ c ∧ c < 2147483629 ∧ 0 ≤ k ∧ k ≤ K
theorem Box.lt {w : Wd} {b K : Nat} (h : Box w b K) : b < w.length := by
  obtain ⟨_, _, _, _, h, _⟩ := h
  exact lt_of_at h
theorem Box.fr {w w' : Wd} {b K K' : Nat} {ns : List Nat} (h : Box w b K) (f : Fr w w' ns) (hb : b ∉ ns) (hk : K ≤ K') : Box w' b K' := by
  obtain ⟨a, c, k, g, h0, h1, h2, h3, h4, h5⟩ := h
  exact ⟨a, c, k, g, f.at h0 hb, h1, h2, h3, h4, by omega⟩
abbrev dTake (ps N : List Str) (c1 c2 c3 : Int) (i j : Nat) : FDef := ⟨ps, [], N,
   [.ife (.and (.idx (.var 0) (.lit (.int 1))) (.cmp .Gt (.idx (.var 0) (.lit (.int 0))) (.lit (.int 0)))) [.asg (.var i) (.bin .Mod (.bi .int [.idx (.var 0) (.lit (.int 0))]) (.var 1)),
    .asg (.sub (.var 0) (.lit (.int 0))) (.bin .FloorDiv (.idx (.var 0) (.lit (.int 0))) (.var 1)),
    .ret (some (.var i))] [],
    .asg (.sub (.var 0) (.lit (.int 3))) (.bin .Add (.idx (.var 0) (.lit (.int 3))) (.lit (.int 1))),
    .asg (.var j) (.bin .Mod (.bi .int [.bin .Pow (.bin .Add (.bin .Add (.idx (.var 0) (.lit (.int 2))) (.bin .Mult (.lit (.int c1)) (.idx (.var 0) (.lit (.int 3))))) (.lit (.int c2))) (.lit (.int 5))]) (.lit (.int 2147483647))),
    .ret (some (.bin .Mod (.bin .FloorDiv (.bin .Mod (.bi .int [.bin .Pow (.bin .Add (.bin .Mult (.var j) (.lit (.int 48271))) (.bin .Mult (.lit (.int c3)) (.idx (.var 0) (.lit (.int 3))))) (.lit (.int 3))]) (.lit (.int 2147483587))) (.lit (.int 64))) (.var 1)))]⟩
theorem bind2 {p q : Str} {a b : MV} (h : p ≠ q) : bindL [p, q] [a, b] [] [] = some [a, b] := bindL_all (by simp [h]) rfl
theorem bind1 {p : Str} {a : MV} : bindL [p] [a] [] [] = some [a] := bindL_all (by simp) rfl
theorem take_ok {T : Prog} {p q x y f : Str} {c1 c2 c3 : Int} {n : Nat} {w : Wd} {b K : Nat} {m : Int} {Q : MV → Wd → Prop} (hT : T.fns.lookup (f, none) = some (dTake [p, q] [p, q, x, y] c1 c2 c3 3 2)) (hpq : p ≠ q)
    (h1 : 0 ≤ c1 ∧ c1 < 2 ^ 25 ∧ 0 ≤ c2 ∧ c2 < 2 ^ 30 ∧ 0 ≤ c3 ∧ c3 < 2 ^ 20)
    (hb : Box w b K) (hK : K < 2 ^ 36) (hm : 0 < m) (hm2 : m < 2 ^ 60)
    (q : ∀ d w', 0 ≤ d → d < m → Fr w w' [b] → Box w' b (K + 1) → Q (.int d) w') : wp (callF T (n + 1) (f, none) [.ref b, .int m] []) Q NoE w := by
  obtain ⟨a, c, k, g, hw, ha, hc0, hc1, hk0, hk1⟩ := hb
  have hl : b < w.length := lt_of_at hw
  refine wp_call hT (bind2 hpq) ?_
  have at0 : ∀ {x y z u : MV}, atI [x, y, z, u] 0 = some x := rfl
  have at1 : ∀ {x y z u : MV}, atI [x, y, z, u] 1 = some y := rfl
  have at2 : ∀ {x y z u : MV}, atI [x, y, z, u] 2 = some z := rfl
  have at3 : ∀ {x y z u : MV}, atI [x, y, z, u] 3 = some u := rfl
  have ix0 : ixN 4 0 = some 0 := rfl
  have ix3 : ixN 4 3 = some 3 := rfl
  have hl2 : (w.set b (Cell.lst [MV.int a, MV.bl g, MV.int c, MV.int (k + 1)]))[b]? = some (Cell.lst [MV.int a, MV.bl g, MV.int c, MV.int (k + 1)]) := List.getElem?_set_self hl
  have mA : ∀ j, mulOkB c1 j = true := fun j => by
    have e : (decide (-(2 ^ 64) < c1) && decide (c1 < 2 ^ 64)) = true := by
      rw [Bool.and_eq_true, decide_eq_true_eq, decide_eq_true_eq]; omega
    unfold mulOkB; rw [e]; rfl
  have mB : ∀ j, mulOkB c3 j = true := fun j => by
    have e : (decide (-(2 ^ 64) < c3) && decide (c3 < 2 ^ 64)) = true := by
      rw [Bool.and_eq_true, decide_eq_true_eq, decide_eq_true_eq]; omega
    unfold mulOkB; rw [e]; rfl
  have mC : ∀ i, mulOkB i 48271 = true := fun i => by simp [mulOkB]
  have mul1 : ∀ (i j : Int) (R : MV → Wd → Prop) (E : Exn → Wd → Prop) (u : Wd), mulOkB i j = true → wp (binM .Mult (.int i) (.int j)) R E u = R (.int (i * j)) u := fun i j R E u h => wp_mul i j h
  simp only [startS, List.map_cons, List.map_nil, List.length_cons, List.length_nil, Nat.reduceAdd, Nat.reduceSub, List.replicate_succ, List.replicate_zero, List.cons_append, List.nil_append, xw_cons, xw_nil, mEqs, xw_bnd, wp_bnd, wp_ret, xw_ret, wp_var, wp_ite, wp_idx,
    List.getElem?_cons_zero, List.getElem?_cons_succ, hw, Ds.at, opEqs, at0, at1, at2, at3, wp_mod, wp_fdiv, wp_set, ix0, ix3, List.set_cons_zero, List.set_cons_succ, hl2]
  simp only [mul1 _ _ _ _ _ (mA _), mul1 _ _ _ _ _ (mB _), mul1 _ _ _ _ _ (mC _), opEqs, wp_ret, wp_pow, wp_mod, wp_fdiv, hl2, at3]
  have big : (0 : Int) < m ∧ (0 < m ∧ m.natAbs.log2 < 9000) := ⟨hm, hm, by
    have : m.natAbs < 2 ^ 60 := by omega
    by_cases h0 : m.natAbs = 0
    · rw [h0]; decide
    · exact (Nat.log2_lt h0).mpr (Nat.lt_trans this (Nat.pow_lt_pow_right (by decide) (by decide : 60 < 9000)))⟩
  have slow : ∀ v : Int, 0 ≤ v → Q (.int (v % m)) (w.set b (Cell.lst [MV.int a, MV.bl g, MV.int c, MV.int (k + 1)])) := fun v hv =>
    q _ _ (Int.emod_nonneg _ (by omega)) (Int.emod_lt_of_pos _ hm) .set ⟨a, c, k + 1, g, hl2, ha, hc0, hc1, by omega, by push_cast; omega⟩
  have fast : Q (.int (a % m)) (w.set b (Cell.lst [MV.int (a / m), MV.bl g, MV.int c, MV.int k])) :=
    q _ _ (Int.emod_nonneg _ (by omega)) (Int.emod_lt_of_pos _ hm) .set ⟨a / m, c, k, g, List.getElem?_set_self hl, Int.ediv_nonneg ha (by omega), hc0, hc1, hk0, by push_cast; omega⟩
  have p1 : 0 ≤ c1 * (k + 1) := Int.mul_nonneg h1.1 (by omega)
  have p2 : c1 * (k + 1) ≤ 2 ^ 25 * 2 ^ 37 := Int.mul_le_mul (by omega) (by omega) (by omega) (by decide)
  have p3 : 0 ≤ c3 * (k + 1) := Int.mul_nonneg h1.2.2.2.2.1 (by omega)
  have p4 : c3 * (k + 1) ≤ 2 ^ 20 * 2 ^ 37 := Int.mul_le_mul (by omega) (by omega) (by omega) (by decide)
  generalize hx : c + c1 * (k + 1) + c2 = x
  generalize hy : x ^ (5 : Int).toNat % 2147483647 = y
  have hy0 : 0 ≤ y := by rw [← hy]; exact Int.emod_nonneg _ (by decide)
  have hy1 : y < 2147483647 := by rw [← hy]; exact Int.emod_lt_of_pos _ (by decide)
  generalize hz : (y * 48271 + c3 * (k + 1)) ^ (3 : Int).toNat % 2147483587 = z
  have hz0 : 0 ≤ z / 64 := Int.ediv_nonneg (by rw [← hz]; exact Int.emod_nonneg _ (by decide)) (by decide)
  have all : ((0 : Int) ≤ 5 ∧ (5 : Int) ≤ 1000000 ∧ x.natAbs < 2 ^ 64) ∧ 0 < (2147483647 : Int) ∧ ((0 : Int) ≤ 3 ∧ (3 : Int) ≤ 1000000 ∧ (y * 48271 + c3 * (k + 1)).natAbs < 2 ^ 64) ∧ 0 < (2147483587 : Int) ∧ ((0 : Int) < 64 ∧ (64 : Int).natAbs.log2 < 9000) ∧ 0 < m ∧ Q (.int (z / 64 % m)) (w.set b (Cell.lst [MV.int a, MV.bl g, MV.int c, MV.int (k + 1)])) :=
    ⟨⟨by decide, by decide, by omega⟩, by decide, ⟨by decide, by decide, by omega⟩, by decide, ⟨by decide, by decide⟩, hm, slow _ hz0⟩
  cases g with
  | true =>
    by_cases h0 : 0 < a
    · simp only [if_true, decide_eq_true h0]
      exact ⟨hm, big.2, fast⟩
    · simp only [if_true, decide_eq_false h0, Bool.false_eq_true, if_false]
      exact all
  | false =>
    simp only [Bool.false_eq_true, if_false]
    exact all
end Mir
set_option Elab.async false
set_option linter.all false
set_option maxRecDepth 100000
set_option maxHeartbeats 4000000
/-! MLaw2: a law's cells, boxes, and its loop. -/
namespace Mir
open PySem L2
abbrev dCell (ps : List Str) (c1 c2 : Int) : FDef := ⟨ps, [], ps,
   [.ret (some (.ite (.cmp .Lt (.var 1) (.bi .len [.var 0])) (.idx (.var 0) (.var 1)) (.bin .Add (.bin .Mult (.lit (.int c1)) (.var 1)) (.bin .Mod (.bi .sum [.slc (.var 0) none (some (.lit (.int 1)))]) (.lit (.int c2))))))]⟩
abbrev dBox (ps : List Str) : FDef := ⟨ps, [], ps,
   [.ret (some (.lst [.bi .abs [.var 0], .cmp .GtE (.bi .abs [.var 0]) (.bin .Pow (.lit (.int 10)) (.lit (.int 18))), .bin .Mod (.bi .int [.bi .abs [.var 0]]) (.lit (.int 2147483629)), .lit (.int 0)]))]⟩
abbrev dLaw (ps N : List Str) (lo hi : Int) (cell box right : Str) : FDef := ⟨ps, [], N,
   [.forE 1 true (.bi .max2 [.lit (.int lo), .bi .min2 [.lit (.int hi), .bi .len [.var 0]]]) [.ife (.not (.call right [.call box [.call cell [.var 0, .var 1] [] []] [] []] [] [])) [.ret (some (.lit (.bl false)))] []],
    .ret (some (.lit (.bl true)))]⟩
theorem intsOf_map (ns : List Int) : intsOf (ns.map MV.int) = some ns := by
  induction ns with
  | nil => rfl
  | cons a r ih => simp only [List.map_cons, intsOf, ih, Option.map_some]
theorem cutL_map {α β : Type} (f : α → β) (xs : List α) (lo hi : Option Int) : cutL (xs.map f) lo hi = (cutL xs lo hi).map f := by
  unfold cutL
  rw [List.length_map, List.map_take, List.map_drop]
theorem atI_nat {α : Type} {xs : List α} {k : Int} (h0 : 0 ≤ k) (h1 : k < xs.length) : ∃ v, atI xs k = some v ∧ xs[k.toNat]? = some v := by
  unfold atI ixN
  rw [if_pos h0, if_pos h1, Option.bind_some]
  have : k.toNat < xs.length := by omega
  exact ⟨xs[k.toNat], List.getElem?_eq_getElem this, List.getElem?_eq_getElem this⟩
section
variable {T : Prog} {f p q : Str} {n : Nat} {w : Wd} {Q : MV → Wd → Prop}
theorem cell_ok {c1 c2 k : Int} {ns : List Int} {s : Nat} (hT : T.fns.lookup (f, none) = some (dCell [p, q] c1 c2)) (hpq : p ≠ q) (h1 : 0 ≤ c1 ∧ c1 < 2 ^ 25) (h2 : 0 < c2) (hs : w[s]? = some (.rdl (ns.map MV.int))) (hk : 0 ≤ k)
    (hq : ∀ z w', Fr w w' [] → Q (.int z) w') : wp (callF T (n + 1) (f, none) [.ref s, .int k] []) Q NoE w := by
  refine wp_call hT (bind2 hpq) ?_
  have mA : ∀ j, mulOkB c1 j = true := fun j => by
    have e : (decide (-(2 ^ 64) < c1) && decide (c1 < 2 ^ 64)) = true := by
      rw [Bool.and_eq_true, decide_eq_true_eq, decide_eq_true_eq]; omega
    unfold mulOkB; rw [e]; rfl
  have mul1 : ∀ (i j : Int) (R : MV → Wd → Prop) (E : Exn → Wd → Prop) (u : Wd), mulOkB i j = true → wp (binM .Mult (.int i) (.int j)) R E u = R (.int (i * j)) u := fun i j R E u h => wp_mul i j h
  simp only [startS, List.map_cons, List.map_nil, List.length_cons, List.length_nil, Nat.reduceAdd, Nat.reduceSub, List.replicate_succ, List.replicate_zero, List.cons_append, List.nil_append, List.append_nil, xw_cons, xw_nil, mEqs, xw_bnd, wp_bnd, wp_ret, xw_ret, wp_var, wp_ite, wp_idx,
    List.getElem?_cons_zero, List.getElem?_cons_succ, hs, Ds.at, opEqs, wp_len, List.length_map, mul1 _ _ _ _ _ (mA _)]
  by_cases hlt : k < ns.length
  · simp only [decide_eq_true hlt, if_true]
    obtain ⟨v, e1, e2⟩ := atI_nat (xs := ns.map MV.int) hk (by simpa using hlt)
    rw [e1]
    rw [List.getElem?_map] at e2
    obtain ⟨z, hz, rfl⟩ := Option.map_eq_some_iff.mp e2
    exact hq z w .refl
  · simp only [decide_eq_false hlt, Bool.false_eq_true, if_false]
    have e1 : wp (partM none) (fun a w' => wp (partM (some (.int 1))) (fun b w' => wp (slcM a b (.ref s)) (fun v w' => wp (biM .sum [v]) (fun v w' => wp (binM .Mod v (.int c2)) (fun u w' => wp (binM .Add (.int (c1 * k)) u) Q NoE w') NoE w') NoE w') NoE w') NoE w') NoE w := by
      show wp (slcM none (some 1) (.ref s)) _ NoE w
      have e2 : slcM none (some 1) (.ref s) w = .ok (.ref w.length) (w ++ [.lst (cutL (ns.map MV.int) none (some 1))]) := by
        unfold slcM
        simp only [hs]
        rfl
      rw [wp_ok e2]
      have e3 : biM .sum [.ref w.length] (w ++ [.lst (cutL (ns.map MV.int) none (some 1))]) = .ok (.int (cutL ns none (some 1)).sum) (w ++ [.lst (cutL (ns.map MV.int) none (some 1))]) := by
        unfold biM
        simp only [bnd, itemsM, at_push, cutL_map, intsOf_map]
      rw [wp_ok e3, wp_mod]
      refine ⟨h2, ?_⟩
      simp only [opEqs, wp_ret]
      exact hq _ _ .push
    exact e1
theorem box_ok {a : Int} (hT : T.fns.lookup (f, none) = some (dBox [p])) (hq : ∀ b w', w.length ≤ b → Fr w w' [] → Box w' b 0 → Q (.ref b) w') : wp (callF T (n + 1) (f, none) [.int a] []) Q NoE w := by
  refine wp_call hT bind1 ?_
  simp only [startS, List.map_cons, List.map_nil, List.length_cons, List.length_nil, Nat.reduceAdd, Nat.reduceSub, List.replicate_zero, List.append_nil, xw_cons, xw_nil, mEqs, xw_bnd, wp_bnd, wp_ret, xw_ret, wp_var,
    List.getElem?_cons_zero, Ds.at, opEqs, wp_pow, wp_mod, wp_if, wp_alloc]
  refine ⟨⟨by decide, by decide, by decide⟩, by decide, ?_⟩
  rw [if_pos (by rw [sizeLine_eq]; decide)]
  refine hq _ _ (Nat.le_refl _) .push ⟨_, _, _, _, at_push, ?_, Int.emod_nonneg _ (by decide), Int.emod_lt_of_pos _ (by decide), Int.le_refl _, by decide⟩
  split <;> omega
/-- THE LAW, by what its boxes give -/
theorem law_ok {cell box right : Str} {lo hi c1 c2 : Int} {pc qc pb : Str} {ns : List Int} (hT : T.fns.lookup (f, none) = some (dLaw [p] [p, q] lo hi cell box right)) (hC : T.fns.lookup (cell, none) = some (dCell [pc, qc] c1 c2)) (hB : T.fns.lookup (box, none) = some (dBox [pb]))
    (hpq : pc ≠ qc) (h1 : 0 ≤ c1 ∧ c1 < 2 ^ 25) (h2 : 0 < c2) (hlo : 0 ≤ lo ∧ lo < 100) (hhi : hi < 100)
    (hR : ∀ (w : Wd) (b : Nat), Box w b 0 → wp (callF T (n + 1) (right, none) [.ref b] []) (fun v w' => v = .bl true ∧ Fr w w' [b]) NoE w) :
    ∃ W', callF T (n + 2) (f, none) [.ref 0] [] [.rdl (ns.map MV.int)] = .ok (.bl true) W' := by
  have main : wp (callF T (n + 2) (f, none) [.ref 0] []) (fun v _ => v = .bl true) NoE [.rdl (ns.map MV.int)] := by
    refine wp_call hT bind1 ?_
    simp only [startS, List.map_cons, List.map_nil, List.length_cons, List.length_nil, Nat.reduceAdd, Nat.reduceSub, List.replicate_succ, List.replicate_zero, List.cons_append, List.nil_append, xw_cons, xw_nil, mEqs, xw_bnd, wp_bnd, wp_ret, xw_ret, wp_var, wp_ite,
      List.getElem?_cons_zero, List.getElem?_cons_succ, Ds.at, opEqs, wp_len, List.length_map, if_true]
    generalize hj : (if (if (ns.length : Int) < hi then (ns.length : Int) else hi) > lo then (if (ns.length : Int) < hi then (ns.length : Int) else hi) else lo) = j
    have hj0 : 0 ≤ j ∧ j < 100 := by
      rw [← hj]
      split <;> (try split) <;> omega
    have er : rngM (.int j) = ret (.rng 0 j.toNat) := if_pos (by omega)
    rw [er, wp_ret]
    refine wp_for (fun _ S w => (S[0]? = some (some (.ref 0)) ∧ S.length = 2) ∧ w[0]? = some (.rdl (ns.map MV.int))) _ 0 _ _ (by simp) ⟨⟨rfl, rfl⟩, rfl⟩ (fun i S w hi ⟨⟨hS, hSl⟩, hw⟩ => ⟨.int (0 + i), ?_, ?_⟩) (fun S w hI => ⟨rfl, trivial⟩)
    · show (if i < j.toNat then some (MV.int (0 + i)) else none) = _
      exact if_pos hi
    · have hS0 : (S.set 1 (some (.int (0 + (i : Int)))))[0]? = some (some (.ref 0)) := by rw [List.getElem?_set_ne (by decide)]; exact hS
      have hS1 : (S.set 1 (some (.int (0 + (i : Int)))))[1]? = some (some (.int (0 + (i : Int)))) := List.getElem?_set_self (by omega)
      simp only [xw_cons, xw_nil, mEqs, xw_bnd, wp_bnd, wp_ret, wp_var, hS0, hS1, fn_eq, List.zip_nil_left]
      refine cell_ok (k := 0 + (i : Int)) hC hpq h1 h2 hw (by omega) fun z w1 f1 => ?_
      refine box_ok hB fun b w2 hb f2 B2 => ?_
      have hw2 : w2[0]? = some (.rdl (ns.map MV.int)) := f2.at (f1.at hw (by simp)) (by simp)
      have hb0 : b ≠ 0 := fun z => by
        have := f1.le
        have := lt_of_at hw
        omega
      refine wp_mono (hR w2 b B2) (fun v w3 ⟨ev, f3⟩ => ?_) fun _ _ z => z.elim
      subst ev
      simp only [opEqs, wp_ret, wp_bnd, Bool.not_true, Bool.false_eq_true, if_false, xw_nil]
      refine ⟨⟨hS0, by simp [hSl]⟩, f3.at hw2 (by simpa using Ne.symm hb0)⟩
  obtain ⟨v, w', e, rfl⟩ := of_wp main
  exact ⟨w', e⟩
end
end Mir
set_option Elab.async false
set_option linter.all false
set_option maxRecDepth 100000
set_option maxHeartbeats 4000000
/-! MVal: values of any kind, and what isinstance says of them. -/
namespace Mir
open PySem L2
/-- the seven kinds -/
inductive Kd where
  | non | bl | int | str | tup | lst | dic
  deriving DecidableEq
def Kd.nm : Kd → String
  | .non => "NoneType"
  | .bl => "bool"
  | .int => "int"
  | .str => "str"
  | .tup => "tuple"
  | .lst => "list"
  | .dic => "dict"
def Kd.is (k : Kd) (c : String) : Bool := decide (k.nm = c) || (decide (k = .bl) && decide (c = "int"))
def kindOf (w : Wd) : MV → Option Kd
  | .non => some .non
  | .bl _ => some .bl
  | .int _ => some .int
  | .str _ => some .str
  | .tup _ => some .tup
  | .ref n => match w[n]? with
    | some (.lst _) => some .lst
    | some (.rdl _) => some .lst
    | some (.dic _) => some .dic
    | _ => none
  | _ => none
theorem tyOf_kind {w : Wd} {v : MV} : tyOf w v = (kindOf w v).map Kd.nm := by
  cases v with
  | ref n =>
    unfold tyOf kindOf
    dsimp only
    cases w[n]? with
    | none => rfl
    | some c => cases c <;> rfl
  | _ => rfl
theorem kit1 : ∀ (k : Kd) (c : String), c ∈ ["int", "str", "bool", "list", "tuple", "dict"] → kitAnyB k.nm [c] = some (k.is c) := by
  intro k c hc
  simp only [List.mem_cons, List.not_mem_nil, or_false] at hc
  cases k <;> rcases hc with rfl | rfl | rfl | rfl | rfl | rfl <;> decide +kernel
theorem wp_isi {w : Wd} {v : MV} {k : Kd} {c : String} {Q : MV → Wd → Prop} {E : Exn → Wd → Prop} (hk : kindOf w v = some k) (hc : c ∈ ["int", "str", "bool", "list", "tuple", "dict"]) : wp (isiM [c] v) Q E w = Q (.bl (k.is c)) w := by
  unfold wp isiM
  rw [tyOf_kind, hk]
  dsimp only [Option.map_some]
  rw [kit1 k c hc]
end Mir
set_option Elab.async false
set_option linter.all false
set_option maxRecDepth 100000
set_option maxHeartbeats 4000000
/-! MPkg: the package's small functions. -/
namespace Mir
open PySem L2
abbrev p_is_integer : FDef := ⟨["value"], [], ["value"],
   [.ret (some (.and (.isi (.var 0) ["int"]) (.not (.isi (.var 0) ["bool"]))))]⟩
abbrev p_is_count : FDef := ⟨["value"], [], ["value"],
   [.ret (some (.and (.call "is_integer" [.var 0] [] []) (.cmp .GtE (.var 0) (.lit (.int 0)))))]⟩
abbrev p_is_index : FDef := ⟨["value", "many"], [], ["value", "many"],
   [.ret (some (.and (.call "is_integer" [.var 0] [] []) (.chain .LtE .Lt (.lit (.int 0)) (.var 0) (.var 1))))]⟩
abbrev p_is_signs : FDef := ⟨["value", "most"], [.non], ["value", "most", "sign"],
   [.ife (.or (.not (.isi (.var 0) ["str"])) (.and (.cmp .IsNot (.var 1) (.lit .non)) (.cmp .Gt (.bi .len [.var 0]) (.var 1)))) [.ret (some (.lit (.bl false)))] [],
    .ret (some (.bi .all [.comp (.chain .LtE .LtE (.lit (.str " ")) (.var 2) (.lit (.str "~"))) 2 false (.var 0) none]))]⟩
/-- a def of the table -/
abbrev Has (T : Prog) (f : Str) (d : FDef) : Prop := T.fns.lookup (f, none) = some d
def isInt : MV → Bool
  | .int _ => true
  | _ => false
def isCnt : MV → Bool
  | .int i => decide (0 ≤ i)
  | _ => false
def isIdx (m : Int) : MV → Bool
  | .int i => decide (0 ≤ i) && decide (i < m)
  | _ => false
section
variable {T : Prog} {n : Nat} {w : Wd} {v : MV} {k : Kd} {Q : MV → Wd → Prop} {E : Exn → Wd → Prop}
theorem int_kind (h : kindOf w v = some k) : (k.is "int" && !k.is "bool") = isInt v := by
  cases v with
  | non => cases h; rfl
  | bl b => cases h; rfl
  | int i => cases h; rfl
  | str s => cases h; rfl
  | tup xs => cases h; rfl
  | ref n =>
    unfold kindOf at h
    dsimp only at h
    split at h <;> first | (cases h; rfl) | cases h
  | _ => cases h
theorem is_integer_ok (hT : Has T "is_integer" p_is_integer) (hk : kindOf w v = some k) (q : Q (.bl (isInt v)) w) : wp (callF T (n + 1) ("is_integer", none) [v] []) Q E w := by
  refine wp_call hT bind1 ?_
  simp only [startS, List.map_cons, List.map_nil, List.length_cons, List.length_nil, Nat.reduceAdd, Nat.reduceSub, List.replicate_zero, List.append_nil, xw_cons, xw_nil, mEqs, xw_bnd, wp_bnd, wp_ret, xw_ret, wp_var, List.getElem?_cons_zero, Ds.at, opEqs, wp_ite,
    wp_isi hk (show "int" ∈ ["int", "str", "bool", "list", "tuple", "dict"] by decide), wp_isi hk (show "bool" ∈ ["int", "str", "bool", "list", "tuple", "dict"] by decide)]
  rw [← int_kind hk] at q
  cases h1 : k.is "int" with
  | true => rw [h1] at q; exact q
  | false => rw [h1] at q; exact q
theorem is_count_ok (hT : Has T "is_integer" p_is_integer) (hC : Has T "is_count" p_is_count) (hk : kindOf w v = some k) (q : Q (.bl (isCnt v)) w) : wp (callF T (n + 2) ("is_count", none) [v] []) Q E w := by
  refine wp_call hC bind1 ?_
  simp only [startS, List.map_cons, List.map_nil, List.length_cons, List.length_nil, Nat.reduceAdd, Nat.reduceSub, List.replicate_zero, List.append_nil, xw_cons, xw_nil, mEqs, xw_bnd, wp_bnd, wp_ret, xw_ret, wp_var, List.getElem?_cons_zero, Ds.at, opEqs, wp_ite, fn_eq, List.zip_nil_left]
  refine is_integer_ok hT hk ?_
  cases v with
  | int i =>
    simp only [isInt, opEqs, wp_ret, if_true]
    exact q
  | _ => exact q
theorem is_index_ok {m : Int} (hT : Has T "is_integer" p_is_integer) (hC : Has T "is_index" p_is_index) (hk : kindOf w v = some k) (q : Q (.bl (isIdx m v)) w) : wp (callF T (n + 2) ("is_index", none) [v, .int m] []) Q E w := by
  refine wp_call hC (bind2 (p := "value") (q := "many") (by decide)) ?_
  simp only [startS, List.map_cons, List.map_nil, List.length_cons, List.length_nil, Nat.reduceAdd, Nat.reduceSub, List.replicate_zero, List.append_nil, xw_cons, xw_nil, mEqs, xw_bnd, wp_bnd, wp_ret, xw_ret, wp_var, List.getElem?_cons_zero, List.getElem?_cons_succ, Ds.at, opEqs, wp_ite, fn_eq, List.zip_nil_left]
  refine is_integer_ok hT hk ?_
  cases v with
  | int i =>
    simp only [isInt, opEqs, wp_ret, if_true, chnM, wp_bnd]
    unfold isIdx at q
    by_cases h0 : 0 ≤ i
    · simp only [decide_eq_true h0, Bool.true_and] at q ⊢
      exact q
    · simp only [decide_eq_false h0, Bool.false_and] at q ⊢
      exact q
  | _ => exact q
def okC (c : Nat) : Bool := !strLt ⟨#[c]⟩ " " && !strLt "~" ⟨#[c]⟩
def isSg : MV → Bool
  | .str s => s.cps.toList.all okC
  | _ => false
theorem boolsOf_map {α : Type} (f : α → Bool) (xs : List α) : boolsOf (xs.map fun x => MV.bl (f x)) = some (xs.map f) := by
  induction xs with
  | nil => rfl
  | cons a r ih => simp only [List.map_cons, boolsOf, ih, Option.map_some]
theorem wp_allB {u : Wd} {m : Nat} {bs : List Bool} (h : u[m]? = some (.lst (bs.map MV.bl))) : wp (biM .all [.ref m]) Q E u = Q (.bl (bs.all id)) u := by
  have e : biM .all [.ref m] u = .ok (.bl (bs.all id)) u := by
    unfold biM
    have hb : boolsOf (bs.map MV.bl) = some bs := by
      have := boolsOf_map id bs
      simpa using this
    simp only [bnd, itemsM, h, hb]
  exact wp_ok e
theorem is_signs_ok (hT : Has T "is_signs" p_is_signs) (hk : kindOf w v = some k) (hl : ∀ s, v = .str s → s.length < sizeLine) (q : ∀ w', Fr w w' [] → Q (.bl (isSg v)) w') : wp (callF T (n + 1) ("is_signs", none) [v] []) Q E w := by
  have hb : bindL (["value", "most"] : List Str) [v] [] [.non] = some [v, .non] := by rfl
  refine wp_call hT hb ?_
  have hN : ∀ {x y z : Str}, startS [x, y, z] [v, .non] = [some v, some .non, none] := rfl
  simp only [hN, xw_cons, xw_nil, mEqs, xw_bnd, wp_bnd, wp_ret, xw_ret, wp_var, List.getElem?_cons_zero, List.getElem?_cons_succ, Ds.at, opEqs, wp_ite,
    wp_isi hk (show "str" ∈ ["int", "str", "bool", "list", "tuple", "dict"] by decide)]
  have hks : k.is "str" = (match v with | .str _ => true | _ => false) := by
    cases v with
    | non => cases hk; rfl
    | bl b => cases hk; rfl
    | int i => cases hk; rfl
    | str s => cases hk; rfl
    | tup xs => cases hk; rfl
    | ref n =>
      unfold kindOf at hk
      dsimp only at hk
      split at hk <;> first | (cases hk; rfl) | cases hk
    | _ => cases hk
  rw [hks]
  cases v with
  | str s =>
    have hl' := hl s rfl
    simp only [Bool.not_true, Bool.false_eq_true, if_false]
    have e1 : cmpM .IsNot .non .non = ret (.bl (!isNon .non)) := rfl
    simp only [e1, wp_ret, isNon, Bool.not_true, opEqs, Bool.false_eq_true, if_false]
    have e2 : itmM (.str s) = ret (.str s.cps.toList) := rfl
    simp only [e2, wp_ret]
    have hlen : s.cps.toList.length = s.length := by simp [Str.length]
    refine wp_comp (fun i acc u => acc = (s.cps.toList.take i).map (fun c => MV.bl (okC c)) ∧ u[w.length]? = some (.lst acc) ∧ Fr w u []) ⟨rfl, at_push, .push⟩ (fun i acc u hi ⟨ha, hu, hf⟩ => ?_) (fun acc u ⟨ha, hu, hf⟩ => ⟨rfl, ?_⟩)
    · have hi' : i < s.cps.toList.length := hi
      refine ⟨.str ⟨#[s.cps.toList[i]]⟩, ?_, ?_⟩
      · show (s.cps.toList[i]?).map _ = _
        rw [List.getElem?_eq_getElem hi']
        rfl
      · simp only [wp_bnd, wp_ret, wp_var, List.set_cons_succ, List.set_cons_zero, List.getElem?_cons_succ, List.getElem?_cons_zero, if_true, chnM]
        have c1 : cmpM .LtE (.str " ") (.str ⟨#[s.cps.toList[i]]⟩) = ret (.bl (!strLt ⟨#[s.cps.toList[i]]⟩ " ")) := rfl
        have c2 : cmpM .LtE (.str ⟨#[s.cps.toList[i]]⟩) (.str "~") = ret (.bl (!strLt "~" ⟨#[s.cps.toList[i]]⟩)) := rfl
        have fin : ∀ bb : Bool, bb = okC s.cps.toList[i] → u[w.length]? = some (.lst acc) ∧ acc.length < sizeLine ∧ (acc ++ [MV.bl bb] = (s.cps.toList.take (i + 1)).map (fun c => MV.bl (okC c)) ∧ (u.set w.length (.lst (acc ++ [MV.bl bb])))[w.length]? = some (.lst (acc ++ [MV.bl bb])) ∧ Fr w (u.set w.length (.lst (acc ++ [MV.bl bb]))) []) := by
          intro bb hbb
          refine ⟨hu, ?_, ?_, List.getElem?_set_self (lt_of_at hu), hf.trans .set fun j hj hm => ?_⟩
          · rw [ha, List.length_map, List.length_take]; omega
          · rw [ha, hbb, List.take_succ_eq_append_getElem hi', List.map_append]
            rfl
          · rw [List.mem_singleton] at hm
            omega
        simp only [c1, wp_ret]
        cases hc : strLt ⟨#[s.cps.toList[i]]⟩ " " with
        | true =>
          simp only [Bool.not_true, wp_ret]
          exact fin false (by unfold okC; rw [hc]; rfl)
        | false =>
          simp only [Bool.not_false, wp_bnd, wp_ret, c2]
          exact fin _ (by unfold okC; rw [hc]; rfl)
    · have ha' : acc = (s.cps.toList.map okC).map MV.bl := by
        rw [ha]
        have : (Itm.str s.cps.toList).len = s.cps.toList.length := rfl
        rw [this, List.take_length, List.map_map]
        rfl
      rw [ha'] at hu
      rw [wp_allB hu]
      have : (s.cps.toList.map okC).all id = isSg (.str s) := by
        unfold isSg
        rw [List.all_map]
        rfl
      rw [this]
      exact q _ hf
  | _ => exact q w .refl
end
end Mir
set_option Elab.async false
set_option linter.all false
set_option maxRecDepth 100000
set_option maxHeartbeats 4000000
/-! MDisk: instances, and the package's disks. -/
namespace Mir
open PySem L2
section
variable {c : Calls} {w : Wd} {n : Nat} {C f m : Str} {fs : List (Str × MV)} {v : MV} {Q : MV → Wd → Prop} {E : Exn → Wd → Prop}
theorem wp_fld (h : w[n]? = some (.ins C fs)) (h1 : c.own C = true) (h2 : c.prop C f = false) (h3 : fs.lookup f = some v) (h4 : c.fld C f = true) : wp (attM c f (.ref n)) Q E w = Q v w := by
  refine wp_ok ?_
  unfold attM
  simp only [h, h1, h2, h3, h4, Bool.false_eq_true, if_false, if_true, Bool.true_eq_false]
theorem wp_prp {v : MV} {w' : Wd} (h : w[n]? = some (.ins C fs)) (h1 : c.own C = true) (h2 : c.prop C f = true) (h3 : c.fn (C, some f) [.ref n] [] w = .ok v w') : wp (attM c f (.ref n)) Q E w = Q v w' := by
  refine wp_ok ?_
  unfold attM
  simp only [h, h1, h2, h3, if_true, Bool.true_eq_false, if_false]
theorem wp_attS {R : Unit → Wd → Prop} (h : w[n]? = some (.ins C fs)) (h0 : fs.length < 900) (h1 : c.own C = true) (h2 : c.fld C f = true) : wp (attS c f (.ref n) v) R E w = R () (w.set n (.ins C (setF f v fs))) := by
  refine wp_ok ?_
  unfold attS
  simp only [h, h0, h1, h2, and_self, if_true]
theorem wp_cls {R : Str → Wd → Prop} (h : w[n]? = some (.ins C fs)) (h0 : (fs.lookup m).isNone = true) (h1 : c.own C = true) (h2 : c.prop C m = false) (h3 : c.has (C, some m) = true) : wp (clsM c m (.ref n)) R E w = R C w := by
  refine wp_ok ?_
  unfold clsM
  simp only [h, h0, h1, h2, h3, and_self, if_true]
end
abbrev p_Disk_init : FDef := ⟨["self"], [], ["self"],
   [.asg (.att (.var 0) "_text") (.lit (.str "")),
    .asg (.att (.var 0) "_synced") (.lit (.int 0))]⟩
abbrev p_Disk_text : FDef := ⟨["self"], [], ["self"],
   [.ret (some (.att (.var 0) "_text"))]⟩
abbrev p_Disk_synced : FDef := ⟨["self"], [], ["self"],
   [.ret (some (.att (.var 0) "_synced"))]⟩
abbrev p_Disk_put : FDef := ⟨["self", "signs"], [], ["self", "signs"],
   [.ife (.not (.call "is_signs" [.var 1] [] [])) [.raise "InvalidSigns" [.var 1]] [],
    .asg (.att (.var 0) "_text") (.bin .Add (.att (.var 0) "_text") (.var 1))]⟩
abbrev p_Disk_sync : FDef := ⟨["self"], [], ["self"],
   [.asg (.att (.var 0) "_synced") (.bi .len [.att (.var 0) "_text"])]⟩
abbrev p_Disk_trim : FDef := ⟨["self", "many"], [], ["self", "many"],
   [.ife (.not (.call "is_index" [.var 1, .bin .Add (.bi .len [.att (.var 0) "_text"]) (.lit (.int 1))] [] [])) [.raise "InvalidCount" [.var 1]] [],
    .asg (.att (.var 0) "_text") (.slc (.att (.var 0) "_text") none (some (.var 1))),
    .asg (.att (.var 0) "_synced") (.var 1)]⟩
abbrev p_Disk_fall : FDef := ⟨["self", "keep"], [], ["self", "keep"],
   [.ife (.not (.call "is_count" [.var 1] [] [])) [.raise "InvalidCount" [.var 1]] [],
    .expr (.mth "trim" (.var 0) [.bin .Add (.att (.var 0) "_synced") (.bin .Mod (.var 1) (.bin .Add (.bin .Sub (.bi .len [.att (.var 0) "_text"]) (.att (.var 0) "_synced")) (.lit (.int 1))))] [] [])]⟩
abbrev p_Disk_lose : FDef := ⟨["self", "many"], [], ["self", "many"],
   [.ife (.not (.call "is_count" [.var 1] [] [])) [.raise "InvalidCount" [.var 1]] [],
    .expr (.mth "trim" (.var 0) [.bi .min2 [.var 1, .bi .len [.att (.var 0) "_text"]]] [] [])]⟩
abbrev HasM (T : Prog) (C m : Str) (d : FDef) : Prop := T.fns.lookup (C, some m) = some d
structure DiskT (T : Prog) : Prop where
  own : T.clss.contains "Disk" = true
  f1 : T.flds.contains ("Disk", "_text") = true
  f2 : T.flds.contains ("Disk", "_synced") = true
  p1 : T.props.contains ("Disk", "_text") = false
  p2 : T.props.contains ("Disk", "_synced") = false
  p3 : T.props.contains ("Disk", "text") = true
  p4 : T.props.contains ("Disk", "synced") = true
  p5 : T.props.contains ("Disk", "put") = false
  p6 : T.props.contains ("Disk", "sync") = false
  p7 : T.props.contains ("Disk", "trim") = false
  p8 : T.props.contains ("Disk", "fall") = false
  p9 : T.props.contains ("Disk", "lose") = false
  m0 : HasM T "Disk" "__init__" p_Disk_init
  m1 : HasM T "Disk" "text" p_Disk_text
  m2 : HasM T "Disk" "synced" p_Disk_synced
  m3 : HasM T "Disk" "put" p_Disk_put
  m4 : HasM T "Disk" "sync" p_Disk_sync
  m5 : HasM T "Disk" "trim" p_Disk_trim
  m6 : HasM T "Disk" "fall" p_Disk_fall
  m7 : HasM T "Disk" "lose" p_Disk_lose
  g1 : Has T "is_integer" p_is_integer
  g2 : Has T "is_count" p_is_count
  g3 : Has T "is_index" p_is_index
  g4 : Has T "is_signs" p_is_signs
  e1 : T.exf.lookup ("InvalidSigns" : Str) = some [("given" : Str)]
  e2 : T.exf.lookup ("InvalidCount" : Str) = some [("given" : Str)]
def tN : Str := "_text"
def sN : Str := "_synced"
def dsk (t : Str) (y : Int) : Cell := .ins "Disk" [(tN, .str t), (sN, .int y)]
theorem look_t {t : Str} {y : Int} : ([(tN, MV.str t), (sN, .int y)] : List (Str × MV)).lookup ("_text" : Str) = some (.str t) := rfl
theorem look_s {t : Str} {y : Int} : ([(tN, MV.str t), (sN, .int y)] : List (Str × MV)).lookup ("_synced" : Str) = some (.int y) := by
  have : (("_synced" : Str) == tN) = false := by decide +kernel
  simp only [List.lookup_cons, this]
  rfl
theorem setF_t {t t' : Str} {y : Int} : setF "_text" (.str t') [(tN, MV.str t), (sN, .int y)] = [(tN, .str t'), (sN, .int y)] := by
  unfold setF
  rw [if_pos (by rfl)]
theorem setF_s {t : Str} {y y' : Int} : setF "_synced" (.int y') [(tN, MV.str t), (sN, .int y)] = [(tN, .str t), (sN, .int y')] := by
  have : ¬ (tN = ("_synced" : Str)) := by decide +kernel
  unfold setF
  rw [if_neg this]
  unfold setF
  rw [if_pos (by rfl)]
section
variable {T : Prog} {n d : Nat} {w : Wd} {t : Str} {y : Int} {v : MV} {k : Kd} {Q : MV → Wd → Prop} {E : Exn → Wd → Prop} {fn : Fid → List MV → List (Str × MV) → M MV}
theorem at_text (D : DiskT T) (h : w[d]? = some (dsk t y)) : wp (attM (T.calls fn) "_text" (.ref d)) Q E w = Q (.str t) w := wp_fld h D.own D.p1 look_t D.f1
theorem at_sync (D : DiskT T) (h : w[d]? = some (dsk t y)) : wp (attM (T.calls fn) "_synced" (.ref d)) Q E w = Q (.int y) w := wp_fld h D.own D.p2 look_s D.f2
theorem set_text (D : DiskT T) (h : w[d]? = some (dsk t y)) {t' : Str} {R : Unit → Wd → Prop} : wp (attS (T.calls fn) "_text" (.ref d) (.str t')) R E w = R () (w.set d (dsk t' y)) := by
  rw [wp_attS h (by simp) D.own D.f1, setF_t]
  rfl
theorem set_sync (D : DiskT T) (h : w[d]? = some (dsk t y)) {y' : Int} {R : Unit → Wd → Prop} : wp (attS (T.calls fn) "_synced" (.ref d) (.int y')) R E w = R () (w.set d (dsk t y')) := by
  rw [wp_attS h (by simp) D.own D.f2, setF_s]
  rfl
theorem wp_addS {a b : Str} : wp (binM .Add (.str a) (.str b)) Q E w = (a.length + b.length ≤ sizeLine ∧ Q (.str (a ++ b)) w) := by
  show wp (if a.length + b.length ≤ sizeLine then ret (.str (a ++ b)) else stuck) Q E w = _
  rw [wp_if, wp_ret, wp_stuck]
  split
  · next h => simp only [h, true_and]
  · next h => simp only [h, false_and]
theorem put_ok (D : DiskT T) (h : w[d]? = some (dsk t y)) (hk : kindOf w v = some k) (ht : t.length < 8000000) (hl : ∀ s, v = .str s → s.length < 8000000)
    (q : ∀ s w', v = .str s → isSg v = true → Fr w w' [d] → w'[d]? = some (dsk (t ++ s) y) → Q .non w') (e : ∀ w', isSg v = false → Fr w w' [] → E ⟨"InvalidSigns", [("given", v)]⟩ w') :
    wp (callF T (n + 2) ("Disk", some "put") [.ref d, v] []) Q E w := by
  refine wp_call D.m3 (bind2 (p := "self") (q := "signs") (by decide)) ?_
  simp only [startS, List.map_cons, List.map_nil, List.length_cons, List.length_nil, Nat.reduceAdd, Nat.reduceSub, List.replicate_zero, List.append_nil, xw_cons, xw_nil, mEqs, xw_bnd, wp_bnd, wp_ret, xw_ret, wp_var, List.getElem?_cons_zero, List.getElem?_cons_succ, Ds.at, wp_ite, fn_eq, List.zip_nil_left]
  refine is_signs_ok D.g4 hk (fun s hs => by have := hl s hs; rw [sizeLine_eq]; omega) fun w1 f1 => ?_
  have h1 := f1.at h (by simp)
  cases hs : isSg v with
  | false =>
    simp only [opEqs, wp_ret, wp_bnd, Bool.not_false, if_true]
    have ee : (T.calls (callF T (n + 1))).exf "InvalidSigns" = [("given" : Str)] := by
      show (T.exf.lookup ("InvalidSigns" : Str)).getD [] = _
      rw [D.e1]; rfl
    simp only [xw_cons, xw_nil, exe_raise, mEqs, xw_bnd, wp_bnd, wp_ret, wp_var, List.getElem?_cons_zero, List.getElem?_cons_succ, ee, Ds.at, xw_ret]
    exact e w1 hs f1
  | true =>
    simp only [opEqs, wp_ret, wp_bnd, Bool.not_true, Bool.false_eq_true, if_false, xw_nil]
    cases v with
    | str s =>
      simp only [xw_cons, xw_nil, mEqs, xw_bnd, wp_bnd, wp_ret, wp_var, List.getElem?_cons_zero, List.getElem?_cons_succ, at_text D h1, wp_addS, set_text D h1, Ds.at, xw_ret]
      refine ⟨by have := hl s rfl; rw [sizeLine_eq]; omega, ?_⟩
      exact q s _ rfl hs ((f1.sub (ms := [d]) fun i _ hi => (by cases hi)).trans .set fun i _ hi => hi) (List.getElem?_set_self (lt_of_at h1))
    | _ => cases hs
theorem sync_ok (D : DiskT T) (h : w[d]? = some (dsk t y)) (ht : t.length < 8000000) (q : ∀ w', Fr w w' [d] → w'[d]? = some (dsk t t.length) → Q .non w') : wp (callF T (n + 1) ("Disk", some "sync") [.ref d] []) Q E w := by
  refine wp_call D.m4 (bind1 (p := "self")) ?_
  simp only [startS, List.map_cons, List.map_nil, List.length_cons, List.length_nil, Nat.reduceAdd, Nat.reduceSub, List.replicate_zero, List.append_nil, xw_cons, xw_nil, mEqs, xw_bnd, wp_bnd, wp_ret, xw_ret, wp_var, List.getElem?_cons_zero, Ds.at, at_text D h, wp_lenS, set_sync D h]
  exact ⟨by rw [sizeLine_eq]; omega, q _ .set (List.getElem?_set_self (lt_of_at h))⟩
theorem cut_len {j : Int} (h0 : 0 ≤ j) (h1 : j ≤ t.length) : ((cutS t none (some j)).length : Int) = j := by
  unfold cutS
  have hl : t.cps.toList.length = t.length := by simp [Str.length]
  have : (⟨((t.cps.toList.drop (HT.sIx t.length 0 none)).take (HT.sIx t.length t.length (some j) - HT.sIx t.length 0 none)).toArray⟩ : Str).length = ((t.cps.toList.drop (HT.sIx t.length 0 none)).take (HT.sIx t.length t.length (some j) - HT.sIx t.length 0 none)).length := by simp [Str.length]
  rw [this, List.length_take, List.length_drop, hl]
  show ((min ((if j < 0 then (j + (t.length : Int)).toNat else min j.toNat t.length) - 0) (t.length - 0) : Nat) : Int) = j
  rw [if_neg (by omega)]
  omega
theorem cut_over {j : Int} (h1 : t.length ≤ j) : cutS t none (some j) = cutS t none (some (t.length : Int)) := by
  have : HT.sIx t.length t.length (some j) = HT.sIx t.length t.length (some (t.length : Int)) := by
    show (if j < 0 then (j + (t.length : Int)).toNat else min j.toNat t.length) = (if (t.length : Int) < 0 then ((t.length : Int) + (t.length : Int)).toNat else min (t.length : Int).toNat t.length)
    rw [if_neg (by omega), if_neg (by omega)]
    omega
  unfold cutS
  rw [this]
theorem wp_slcS {s : Str} {lo hi : Option Int} : wp (slcM lo hi (.str s)) Q E w = (s.length ≤ sizeLine ∧ Q (.str (cutS s lo hi)) w) := by
  show wp (if s.length ≤ sizeLine then ret (.str (cutS s lo hi)) else stuck) Q E w = _
  rw [wp_if, wp_ret, wp_stuck]
  split
  · next h => simp only [h, true_and]
  · next h => simp only [h, false_and]
theorem part_n : partM none = ret none := rfl
theorem part_i (i : Int) : partM (some (.int i)) = ret (some i) := rfl
theorem exf_of_lookup {C : Str} {fs : List Str} (h : T.exf.lookup C = some fs) : (T.calls fn).exf C = fs := by
  show (T.exf.lookup C).getD [] = _
  rw [h]; rfl
theorem trim_ok (D : DiskT T) (h : w[d]? = some (dsk t y)) (hk : kindOf w v = some k) (ht : t.length < 8000000)
    (q : ∀ j w', v = .int j → 0 ≤ j → j ≤ t.length → Fr w w' [d] → w'[d]? = some (dsk (cutS t none (some j)) j) → Q .non w') (e : ∀ w', isIdx (t.length + 1) v = false → Fr w w' [] → E ⟨"InvalidCount", [("given", v)]⟩ w') :
    wp (callF T (n + 3) ("Disk", some "trim") [.ref d, v] []) Q E w := by
  refine wp_call D.m5 (bind2 (p := "self") (q := "many") (by decide)) ?_
  simp only [startS, List.map_cons, List.map_nil, List.length_cons, List.length_nil, Nat.reduceAdd, Nat.reduceSub, List.replicate_zero, List.append_nil, xw_cons, xw_nil, mEqs, xw_bnd, wp_bnd, wp_ret, xw_ret, wp_var, List.getElem?_cons_zero, List.getElem?_cons_succ, Ds.at, wp_ite, fn_eq, List.zip_nil_left, at_text D h, wp_lenS, opEqs]
  refine ⟨by rw [sizeLine_eq]; omega, ?_⟩
  refine is_index_ok D.g1 D.g3 hk ?_
  cases hs : isIdx (t.length + 1) v with
  | false =>
    simp only [opEqs, wp_ret, wp_bnd, Bool.not_false, if_true]
    simp only [xw_cons, xw_nil, exe_raise, mEqs, xw_bnd, wp_bnd, wp_ret, wp_var, List.getElem?_cons_zero, List.getElem?_cons_succ, exf_of_lookup D.e2, Ds.at, xw_ret]
    exact e w hs .refl
  | true =>
    simp only [opEqs, wp_ret, wp_bnd, Bool.not_true, Bool.false_eq_true, if_false, xw_nil]
    cases v with
    | int j =>
      obtain ⟨h0, h1⟩ := Bool.and_eq_true_iff.mp (show (decide (0 ≤ j) && decide (j < t.length + 1)) = true from hs)
      have h0 := of_decide_eq_true h0
      have h1 := of_decide_eq_true h1
      have g2 : (w.set d (dsk (cutS t none (some j)) y))[d]? = some (dsk (cutS t none (some j)) y) := List.getElem?_set_self (lt_of_at h)
      simp only [xw_cons, xw_nil, mEqs, xw_bnd, wp_bnd, wp_ret, wp_var, List.getElem?_cons_zero, List.getElem?_cons_succ, at_text D h, part_n, part_i, wp_slcS, set_text D h, Ds.at, xw_ret, set_sync D g2]
      refine ⟨by rw [sizeLine_eq]; omega, ?_⟩
      refine q j _ rfl h0 (by omega) ?_ ?_
      · exact Fr.trans (ns := [d]) .set .set fun i _ hi => hi
      · exact List.getElem?_set_self (lt_of_at g2)
    | _ => cases hs
theorem kind_int (j : Int) : kindOf w (.int j) = some .int := rfl
theorem look_no {m : Str} (h1 : (m == tN) = false) (h2 : (m == sN) = false) : ([(tN, MV.str t), (sN, .int y)] : List (Str × MV)).lookup m = none := by
  simp only [List.lookup_cons, h1, h2]
  rfl
theorem fall_ok (D : DiskT T) (h : w[d]? = some (dsk t y)) (hk : kindOf w v = some k) (ht : t.length < 8000000) (hy : 0 ≤ y ∧ y ≤ t.length)
    (q : ∀ j w', v = .int j → 0 ≤ j → Fr w w' [d] → w'[d]? = some (dsk (cutS t none (some (y + j % (t.length - y + 1)))) (y + j % (t.length - y + 1))) → Q .non w') (e : ∀ w', isCnt v = false → Fr w w' [] → E ⟨"InvalidCount", [("given", v)]⟩ w') :
    wp (callF T (n + 4) ("Disk", some "fall") [.ref d, v] []) Q E w := by
  refine wp_call D.m6 (bind2 (p := "self") (q := "keep") (by decide)) ?_
  simp only [startS, List.map_cons, List.map_nil, List.length_cons, List.length_nil, Nat.reduceAdd, Nat.reduceSub, List.replicate_zero, List.append_nil, xw_cons, xw_nil, mEqs, xw_bnd, wp_bnd, wp_ret, xw_ret, wp_var, List.getElem?_cons_zero, List.getElem?_cons_succ, Ds.at, wp_ite, fn_eq, List.zip_nil_left]
  refine is_count_ok D.g1 D.g2 hk ?_
  cases hs : isCnt v with
  | false =>
    simp only [opEqs, wp_ret, wp_bnd, Bool.not_false, if_true]
    simp only [xw_cons, xw_nil, exe_raise, mEqs, xw_bnd, wp_bnd, wp_ret, wp_var, List.getElem?_cons_zero, List.getElem?_cons_succ, exf_of_lookup D.e2, Ds.at, xw_ret]
    exact e w hs .refl
  | true =>
    simp only [opEqs, wp_ret, wp_bnd, Bool.not_true, Bool.false_eq_true, if_false, xw_nil]
    cases v with
    | int j =>
      have h0 : 0 ≤ j := of_decide_eq_true (show decide (0 ≤ j) = true from hs)
      have hc : ∀ {R : Str → Wd → Prop} {E' : Exn → Wd → Prop}, wp (clsM (T.calls (callF T (n + 3))) "trim" (.ref d)) R E' w = R "Disk" w := fun {R E'} => wp_cls h (by rw [look_no (by decide +kernel) (by decide +kernel)]; rfl) D.own D.p7 (by show (T.fns.lookup _).isSome = true; rw [D.m5]; rfl)
      simp only [xw_cons, xw_nil, mEqs, xw_bnd, wp_bnd, wp_ret, wp_var, List.getElem?_cons_zero, List.getElem?_cons_succ, at_text D h, at_sync D h, hc, wp_lenS, opEqs, wp_mod, mthM, fn_eq, List.zip_nil_left]
      refine ⟨by rw [sizeLine_eq]; omega, by omega, ?_⟩
      have r0 := Int.emod_nonneg j (show (t.length - y + 1 : Int) ≠ 0 by omega)
      have r1 := Int.emod_lt_of_pos j (show (0 : Int) < t.length - y + 1 by omega)
      refine trim_ok D h (kind_int _) ht (fun j' w' ev g0 g1 f1 hw => ?_) fun w' hb _ => ?_
      · cases ev
        exact q j w' rfl h0 f1 hw
      · exfalso
        have : isIdx (t.length + 1) (.int (y + j % (t.length - y + 1))) = true := by
          show (decide _ && decide _) = true
          rw [Bool.and_eq_true, decide_eq_true_eq, decide_eq_true_eq]
          omega
        rw [this] at hb
        cases hb
    | _ => cases hs
theorem lose_ok (D : DiskT T) (h : w[d]? = some (dsk t y)) (hk : kindOf w v = some k) (ht : t.length < 8000000)
    (q : ∀ j w', v = .int j → 0 ≤ j → Fr w w' [d] → w'[d]? = some (dsk (cutS t none (some (if (t.length : Int) < j then (t.length : Int) else j))) (if (t.length : Int) < j then (t.length : Int) else j)) → Q .non w') (e : ∀ w', isCnt v = false → Fr w w' [] → E ⟨"InvalidCount", [("given", v)]⟩ w') :
    wp (callF T (n + 4) ("Disk", some "lose") [.ref d, v] []) Q E w := by
  refine wp_call D.m7 (bind2 (p := "self") (q := "many") (by decide)) ?_
  simp only [startS, List.map_cons, List.map_nil, List.length_cons, List.length_nil, Nat.reduceAdd, Nat.reduceSub, List.replicate_zero, List.append_nil, xw_cons, xw_nil, mEqs, xw_bnd, wp_bnd, wp_ret, xw_ret, wp_var, List.getElem?_cons_zero, List.getElem?_cons_succ, Ds.at, wp_ite, fn_eq, List.zip_nil_left]
  refine is_count_ok D.g1 D.g2 hk ?_
  cases hs : isCnt v with
  | false =>
    simp only [opEqs, wp_ret, wp_bnd, Bool.not_false, if_true]
    simp only [xw_cons, xw_nil, exe_raise, mEqs, xw_bnd, wp_bnd, wp_ret, wp_var, List.getElem?_cons_zero, List.getElem?_cons_succ, exf_of_lookup D.e2, Ds.at, xw_ret]
    exact e w hs .refl
  | true =>
    simp only [opEqs, wp_ret, wp_bnd, Bool.not_true, Bool.false_eq_true, if_false, xw_nil]
    cases v with
    | int j =>
      have h0 : 0 ≤ j := of_decide_eq_true (show decide (0 ≤ j) = true from hs)
      have hc : ∀ {R : Str → Wd → Prop} {E' : Exn → Wd → Prop}, wp (clsM (T.calls (callF T (n + 3))) "trim" (.ref d)) R E' w = R "Disk" w := fun {R E'} => wp_cls h (by rw [look_no (by decide +kernel) (by decide +kernel)]; rfl) D.own D.p7 (by show (T.fns.lookup _).isSome = true; rw [D.m5]; rfl)
      simp only [xw_cons, xw_nil, mEqs, xw_bnd, wp_bnd, wp_ret, wp_var, List.getElem?_cons_zero, List.getElem?_cons_succ, at_text D h, at_sync D h, hc, wp_lenS, opEqs, mthM, fn_eq, List.zip_nil_left]
      refine ⟨by rw [sizeLine_eq]; omega, ?_⟩
      refine trim_ok D h (kind_int _) ht (fun j' w' ev g0 g1 f1 hw => ?_) fun w' hb _ => ?_
      · cases ev
        exact q j w' rfl h0 f1 hw
      · exfalso
        have : isIdx (t.length + 1) (.int (if (t.length : Int) < j then (t.length : Int) else j)) = true := by
          show (decide _ && decide _) = true
          rw [Bool.and_eq_true, decide_eq_true_eq, decide_eq_true_eq]
          split <;> omega
        rw [this] at hb
        cases hb
    | _ => cases hs
end
end Mir
set_option Elab.async false
set_option linter.all false
set_option maxRecDepth 100000
set_option maxHeartbeats 4000000
/-! MWp3: try, errors held, calls by name. -/
namespace Mir
open PySem L2
section
variable {c : Calls} {cur : Option Exn} {D : Ds} {S : Env} {w : Wd} {Q : MV → Wd → Prop} {E : Exn → Wd → Prop}
theorem xw_try (b : List Sx) (cs : List (Str × Option Nat)) (bs : List (List Sx)) : xw (exe c cur (.tryE b cs bs) S) D w = xw (exeL c cur b S) { D with ex := fun e S' w' => xw (exeH c cs bs e S') D w' } w := by
  rw [exe_try]
  unfold xw wp
  dsimp only
  cases exeL c cur b S w with
  | ok f w' => cases f <;> rfl
  | err _ _ => rfl
  | bad => rfl
theorem xw_sui (oi : Option Nat) (m : M Fl) : xw (suiM oi m) D w = xw m ⟨fun S => D.nx (Fl.clr oi S), D.rt, fun _ _ _ => False, fun S => D.bk (Fl.clr oi S), fun S => D.ct (Fl.clr oi S)⟩ w := by
  unfold xw wp suiM
  cases m w with
  | ok f w' => cases f <;> rfl
  | err _ _ => rfl
  | bad => rfl
theorem xw_hnd {C : Str} {oi : Option Nat} {cs : List (Str × Option Nat)} {b : List Sx} {bs : List (List Sx)} {e : Exn} (h1 : c.exf e.cls ≠ []) (h2 : c.err C = true) : xw (exeH c ((C, oi) :: cs) (b :: bs) e S) D w = if c.sub e.cls C = true then xw (suiL c oi b e S) D w else xw (exeH c cs bs e S) D w := by
  rw [exeH_cons, if_pos ⟨h1, h2⟩]
  split <;> rfl
theorem wp_exf {e : Exn} {f : Str} {v : MV} (h1 : (c.exf e.cls).contains f = true) (h2 : e.fs.lookup f = some v) : wp (den c (some e) (.exf f) S) Q E w = Q v w := by
  refine wp_ok ?_
  unfold den
  dsimp only
  rw [if_pos h1, h2]
  rfl
theorem wp_exi {e : Exn} {C : Str} (h1 : c.exf e.cls ≠ []) (h2 : c.err C = true) : wp (den c (some e) (.exi C) S) Q E w = Q (.bl (c.sub e.cls C)) w := by
  refine wp_ok ?_
  unfold den
  dsimp only
  rw [if_pos ⟨h1, h2⟩]
  rfl
theorem call_kw {T : Prog} {n : Nat} {f : Fid} {d : FDef} {vs vs' as : List MV} {kvs : List (Str × MV)} (hd : T.fns.lookup f = some d) (h1 : bindL d.ps vs kvs d.dfl = some as) (h2 : bindL d.ps vs' [] d.dfl = some as) : callF T n f vs kvs = callF T n f vs' [] := by
  cases n with
  | zero => rfl
  | succ n =>
    unfold callF
    rw [hd]
    dsimp only
    rw [h1, h2]
theorem wp_eqI (i j : Int) : wp (cmpM .Eq (.int i) (.int j)) Q E w = Q (.bl (i == j)) w := by
  refine wp_ok ?_
  show eqM (.int i) (.int j) w = _
  have h1 : ∀ x : Int, toD deepest w (.int x) = some (.int x) := fun x => by unfold toD; rfl
  have h2 : ∀ x : Int, SeqAt.shaped (.int x) = true := fun x => by
    unfold SeqAt.shaped
    rw [Bool.and_eq_true]
    refine ⟨by unfold PyData.canLay0; rfl, by unfold PyData.depth; rfl⟩
  unfold eqM
  simp only [h1, h2, and_self, if_true]
  unfold PyData.eqv
  rfl
end
section
variable {T : Prog} {fn : Fid → List MV → List (Str × MV) → M MV}
theorem err_of {C : Str} (h : T.errs.contains C = true) : (T.calls fn).err C = true := h
theorem sub_of {C D : Str} {b : Bool} (h : (C == D || T.subs.contains (C, D)) = b) : (T.calls fn).sub C D = b := h
theorem has_of {f : Fid} {d : FDef} (h : T.fns.lookup f = some d) : (T.calls fn).has f = true := by
  show (T.fns.lookup f).isSome = true
  rw [h]
  rfl
end
end Mir
set_option Elab.async false
set_option linter.all false
set_option maxRecDepth 100000
set_option maxHeartbeats 4000000
/-! MRepr: data that repr shows, that == compares. -/
namespace Mir
open PySem L2
section
variable {Q : MV → Wd → Prop} {E : Exn → Wd → Prop} {w : Wd} {v u : MV} {d e : PyData}
/-- small enough to be shown -/
structure Shows (d : PyData) : Prop where
  sh : d.showable = true
  le : d.shown.length ≤ sizeLine
  dp : d.depth ≤ 60
theorem wp_repr (h : toD deepest w v = some d) (s : Shows d) : wp (biM .repr [v]) Q E w = Q (.str d.shown) w := by
  refine wp_ok ?_
  unfold biM
  simp only [h, s.sh, s.le, s.dp, and_self, if_true]
theorem wp_ne {r : Nat} (h1 : toD deepest w (.ref r) = some d) (h2 : toD deepest w u = some e) (s1 : SeqAt.shaped d = true) (s2 : SeqAt.shaped e = true) : wp (cmpM .NotEq (.ref r) u) Q E w = Q (.bl (!PyData.eqv d e)) w := by
  refine wp_ok ?_
  have e0 : cmpM .NotEq (.ref r) u = neM (.ref r) u := by
    unfold cmpM
    rfl
  rw [e0]
  unfold neM
  simp only [h1, h2, s1, s2, and_self, if_true]
theorem shows_of {B : Nat} (hB : 8 ≤ B) (h1 : d.leavesShort B = true) (h2 : (B + 2) * d.weight + B ≤ sizeLine) (h3 : d.showable = true) (h4 : d.depth ≤ 60) : Shows d :=
  ⟨h3, Nat.le_trans (PyData.shown_le B hB d h1) h2, h4⟩
end
end Mir
set_option Elab.async false
set_option linter.all false
set_option maxRecDepth 100000
set_option maxHeartbeats 4000000
/-! MData: values that laws pass about, and the data that they are. -/
namespace Mir
open PySem L2
def StrG (N : Nat) (s : Str) : Prop := s.length ≤ N ∧ ∀ c ∈ s.cps.toList, c < 0x110000
theorem StrG.le {N M : Nat} {s : Str} (h : StrG N s) (l : N ≤ M) : StrG M s := ⟨Nat.le_trans h.1 l, h.2⟩
def Flat (N : Nat) (v : MV) : Prop := v = .non ∨ (∃ b, v = .bl b) ∨ (∃ i, v = .int i ∧ i.natAbs < 10 ^ 30) ∨ ∃ s, v = .str s ∧ StrG N s
theorem Flat.non {N : Nat} : Flat N .non := .inl rfl
theorem Flat.bl {N : Nat} (b : Bool) : Flat N (.bl b) := .inr (.inl ⟨b, rfl⟩)
theorem Flat.int {N : Nat} {i : Int} (h : i.natAbs < 10 ^ 30) : Flat N (.int i) := .inr (.inr (.inl ⟨i, rfl, h⟩))
theorem Flat.str {N : Nat} {s : Str} (h : StrG N s) : Flat N (.str s) := .inr (.inr (.inr ⟨s, rfl, h⟩))
structure Sm (W D : Nat) (d : PyData) : Prop where
  lf : d.leavesShort 40 = true
  wt : d.weight ≤ W
  sh : d.showable = true
  dp : d.depth ≤ D
structure SmL (W D : Nat) (ds : List PyData) : Prop where
  lf : PyData.leavesShortAll 40 ds = true
  wt : PyData.weightAll ds ≤ W
  sh : PyData.showableAll ds = true
  dp : PyData.depthAll ds ≤ D
section
variable {W D W' D' N : Nat} {d : PyData} {ds : List PyData} {w : Wd}
theorem Sm.shows (h : Sm W D d) (hW : 42 * W + 40 ≤ sizeLine) (hD : D ≤ 60) : Shows d :=
  shows_of (B := 40) (by decide) h.lf (Nat.le_trans (Nat.add_le_add_right (Nat.mul_le_mul_left 42 h.wt) 40) hW) h.sh (Nat.le_trans h.dp hD)
theorem SmL.nil : SmL 0 0 [] := ⟨rfl, Nat.le_refl _, rfl, Nat.le_refl _⟩
theorem SmL.cons (h : Sm W D d) (g : SmL W' D' ds) : SmL (W + 1 + W') (max D D') (d :: ds) := by
  refine ⟨?_, ?_, ?_, ?_⟩
  · simp only [PyData.leavesShortAll, h.lf, g.lf, Bool.and_self]
  · simp only [PyData.weightAll]
    have := h.wt
    have := g.wt
    omega
  · simp only [PyData.showableAll, h.sh, g.sh, Bool.and_self]
  · simp only [PyData.depthAll]
    have := h.dp
    have := g.dp
    omega
theorem SmL.list (g : SmL W D ds) : Sm W (D + 1) (.list ds) := by
  refine ⟨?_, ?_, ?_, ?_⟩
  · simp only [PyData.leavesShort, g.lf]
  · simp only [PyData.weight]; exact g.wt
  · simp only [PyData.showable, g.sh]
  · simp only [PyData.depth]
    exact Nat.succ_le_succ g.dp
theorem SmL.tuple (g : SmL W D ds) : Sm W (D + 1) (.tuple ds) := by
  refine ⟨?_, ?_, ?_, ?_⟩
  · simp only [PyData.leavesShort, g.lf]
  · simp only [PyData.weight]; exact g.wt
  · simp only [PyData.showable, g.sh]
  · simp only [PyData.depth]
    exact Nat.succ_le_succ g.dp
theorem Sm.mono (h : Sm W D d) (hW : W ≤ W') (hD : D ≤ D') : Sm W' D' d := ⟨h.lf, Nat.le_trans h.wt hW, h.sh, Nat.le_trans h.dp hD⟩
theorem SmL.mono (h : SmL W D ds) (hW : W ≤ W') (hD : D ≤ D') : SmL W' D' ds := ⟨h.lf, Nat.le_trans h.wt hW, h.sh, Nat.le_trans h.dp hD⟩
theorem sm_non : Sm 0 0 .none := ⟨rfl, Nat.le_refl _, rfl, Nat.le_refl _⟩
theorem sm_bool (b : Bool) : Sm 0 0 (.bool b) := ⟨rfl, Nat.le_refl _, rfl, Nat.le_refl _⟩
theorem sm_str {s : Str} (h : StrG N s) : Sm N 0 (.str s) := by
  refine ⟨?_, ?_, rfl, Nat.le_refl _⟩
  · simp only [PyData.leavesShort, List.all_eq_true, decide_eq_true_eq]
    intro c hc
    have := h.2 c hc
    omega
  · simp only [PyData.weight]; exact h.1
theorem sm_int {i : Int} (h : i.natAbs < 10 ^ 30) : Sm 100 0 (.int i) := by
  have hlog : i.natAbs.log2 < 100 := by
    by_cases h0 : i.natAbs = 0
    · rw [h0]; decide
    · exact (Nat.log2_lt h0).mpr (Nat.lt_trans h (by decide))
  refine ⟨?_, ?_, ?_, Nat.le_refl _⟩
  · simp only [PyData.leavesShort, decide_eq_true_eq]
    have e := int_text_length_le10 (k := 30) (by decide) h
    show (Str.ofString (toString i)).length ≤ 40
    rw [PyProof.Rows.ofString_length, String.length_toList]
    omega
  · simp only [PyData.weight]
    split <;> omega
  · simp only [PyData.showable, decide_eq_true_eq]
    omega
theorem flat_d {v : MV} (h : Flat N v) : ∃ d, (∀ g w, toD g w v = some d) ∧ Sm (N + 100) 0 d := by
  rcases h with rfl | ⟨b, rfl⟩ | ⟨i, rfl, h⟩ | ⟨s, rfl, h⟩
  · exact ⟨_, fun g w => by unfold toD; rfl, sm_non.mono (by omega) (by omega)⟩
  · exact ⟨_, fun g w => by unfold toD; rfl, (sm_bool b).mono (by omega) (by omega)⟩
  · exact ⟨_, fun g w => by unfold toD; rfl, (sm_int h).mono (by omega) (by omega)⟩
  · exact ⟨_, fun g w => by unfold toD; rfl, (sm_str h).mono (by omega) (by omega)⟩
theorem flats_d : ∀ {xs : List MV}, (∀ x ∈ xs, Flat N x) → ∃ ds, (∀ g w, xs.mapM (toD g w) = some ds) ∧ SmL ((N + 101) * xs.length) 0 ds
  | [], _ => ⟨[], fun _ _ => rfl, SmL.nil.mono (by omega) (by omega)⟩
  | x :: xs, h => by
    obtain ⟨d, h1, h2⟩ := flat_d (h x List.mem_cons_self)
    obtain ⟨ds, h3, h4⟩ := flats_d fun y hy => h y (List.mem_cons_of_mem _ hy)
    refine ⟨d :: ds, fun g w => ?_, ?_⟩
    · rw [List.mapM_cons, h1, h3]; rfl
    · refine (SmL.cons h2 h4).mono ?_ (by omega)
      rw [List.length_cons, Nat.mul_succ]
      omega
/-- what laws pass: flat values, and tuples, lists, dicts of some -/
def Gd (N : Nat) (w : Wd) (v : MV) : Prop := Flat N v ∨ (∃ xs, v = .tup xs ∧ xs.length ≤ 6 ∧ ∀ x ∈ xs, Flat N x) ∨ (∃ n xs, v = .ref n ∧ w[n]? = some (.lst xs) ∧ xs.length ≤ 6 ∧ ∀ x ∈ xs, Flat N x) ∨ ∃ n k x, v = .ref n ∧ w[n]? = some (.dic [(.inr k, x)]) ∧ StrG N k ∧ Flat N x
theorem good_d {v : MV} (h : Gd N w v) : ∃ d, (∀ g, toD (g + 1) w v = some d) ∧ Sm ((N + 101) * 6) 1 d := by
  have h6 : ∀ {k : Nat}, k ≤ 6 → (N + 101) * k ≤ (N + 101) * 6 := fun h => Nat.mul_le_mul_left _ h
  rcases h with h | ⟨xs, rfl, hl, h⟩ | ⟨n, xs, rfl, hw, hl, h⟩ | ⟨n, k, x, rfl, hw, hk, hx⟩
  · obtain ⟨d, h1, h2⟩ := flat_d h
    exact ⟨d, fun g => h1 _ _, h2.mono (by omega) (by omega)⟩
  · obtain ⟨ds, h1, h2⟩ := flats_d h
    refine ⟨.tuple ds, fun g => ?_, h2.tuple.mono (h6 hl) (by omega)⟩
    unfold toD
    rw [h1]; rfl
  · obtain ⟨ds, h1, h2⟩ := flats_d h
    refine ⟨.list ds, fun g => ?_, h2.list.mono (h6 hl) (by omega)⟩
    unfold toD
    rw [hw]
    dsimp only
    rw [h1]; rfl
  · obtain ⟨d, h1, h2⟩ := flat_d hx
    refine ⟨.dict [(.str k, d)], fun g => ?_, ?_, ?_, ?_, ?_⟩
    · unfold toD
      rw [hw]
      dsimp only
      rw [List.mapM_cons, h1]; rfl
    · have e := (sm_str hk).lf
      simp only [PyData.leavesShort] at e
      simp only [PyData.leavesShort, PyData.leavesShortKv, h2.lf, e, Bool.and_self]
    · simp only [PyData.weight, PyData.weightKv]
      have e1 := h2.wt
      have e2 := (sm_str hk).wt
      simp only [PyData.weight] at e2
      omega
    · simp only [PyData.showable, PyData.showableKv, h2.sh, Bool.and_self]
    · simp only [PyData.depth, PyData.depthKv]
      have := h2.dp
      omega
theorem Gd.kind {v : MV} (h : Gd N w v) : ∃ k, kindOf w v = some k := by
  rcases h with (rfl | ⟨b, rfl⟩ | ⟨i, rfl, h⟩ | ⟨s, rfl, h⟩) | ⟨xs, rfl, hl, h⟩ | ⟨n, xs, rfl, hw, hl, h⟩ | ⟨n, k, x, rfl, hw, hk, hx⟩
  · exact ⟨.non, rfl⟩
  · exact ⟨.bl, rfl⟩
  · exact ⟨.int, rfl⟩
  · exact ⟨.str, rfl⟩
  · exact ⟨.tup, rfl⟩
  · exact ⟨.lst, by unfold kindOf; dsimp only; rw [hw]⟩
  · exact ⟨.dic, by unfold kindOf; dsimp only; rw [hw]⟩
theorem Gd.str {v : MV} (h : Gd N w v) : ∀ s, v = .str s → StrG N s := by
  rintro s rfl
  rcases h with (h | ⟨b, h⟩ | ⟨i, h, _⟩ | ⟨s, h, h1⟩) | ⟨xs, h, _⟩ | ⟨n, xs, h, _⟩ | ⟨n, k, x, h, _⟩
  all_goals cases h
  exact h1
theorem Gd.fr {v : MV} {w' : Wd} {ns : List Nat} (h : Gd N w v) (f : Fr w w' ns) (hn : ∀ n, v = .ref n → n ∉ ns) : Gd N w' v := by
  rcases h with h | h | ⟨n, xs, rfl, hw, h⟩ | ⟨n, k, x, rfl, hw, h⟩
  · exact .inl h
  · exact .inr (.inl h)
  · exact .inr (.inr (.inl ⟨n, xs, rfl, f.at hw (hn n rfl), h⟩))
  · exact .inr (.inr (.inr ⟨n, k, x, rfl, f.at hw (hn n rfl), h⟩))
/-- [tag, v], shown -/
theorem two_d {v : MV} {t : Str} {r : Nat} (h : Gd N w v) (ht : StrG 100 t) (hr : w[r]? = some (.lst [.str t, v])) : ∃ d, (∀ r', w[r']? = some (.lst [.str t, v]) → toD deepest w (.ref r') = some d) ∧ Sm ((N + 101) * 6 + 102) 2 d := by
  obtain ⟨d, h1, h2⟩ := good_d h
  refine ⟨.list [.str t, d], fun r' hr' => ?_, ?_⟩
  · rw [show deepest = 38 + 1 + 1 from rfl]
    unfold toD
    rw [hr']
    dsimp only
    rw [List.mapM_cons, List.mapM_cons, h1]
    rw [show toD (38 + 1) w (.str t) = some (.str t) by unfold toD; rfl]
    rfl
  · exact (SmL.list (SmL.cons (sm_str ht) (SmL.cons h2 SmL.nil))).mono (by omega) (by omega)
end
end Mir
set_option Elab.async false
set_option linter.all false
set_option maxRecDepth 100000
set_option maxHeartbeats 4000000
/-! MStr: signs of strings. -/
namespace Mir
open PySem L2
abbrev cs (s : Str) : List Nat := s.cps.toList
theorem cs_len (s : Str) : (cs s).length = s.length := by simp [Str.length]
theorem cs_append (a b : Str) : cs (a ++ b) = cs a ++ cs b := by
  show (a.cps ++ b.cps).toList = _
  rw [Array.toList_append]
theorem cs_cut (s : Str) (lo hi : Option Int) : cs (cutS s lo hi) = cutL (cs s) lo hi := by
  unfold cutS cutL
  rw [cs_len]
theorem cs_one (c : Nat) : cs ⟨#[c]⟩ = [c] := rfl
theorem foldl_cs : ∀ (xs : List (Array Nat)) (a : Array Nat), (xs.foldl (· ++ ·) a).toList = a.toList ++ (xs.map (·.toList)).flatten
  | [], a => by simp
  | x :: r, a => by
    rw [List.foldl_cons, foldl_cs r, Array.toList_append, List.map_cons, List.flatten_cons, List.append_assoc]
theorem cs_mul (s : Str) (n : Int) : cs (Txt.mul s n) = (List.replicate n.toNat (cs s)).flatten := by
  unfold Txt.mul
  split
  · next h =>
    have : n.toNat = 0 := by omega
    rw [this]
    rfl
  · split
    · next h1 h2 =>
      rw [Bool.or_eq_true, beq_iff_eq, beq_iff_eq] at h2
      rcases h2 with h2 | h2
      · subst h2
        show cs s = (List.replicate 1 (cs s)).flatten
        simp
      · have : cs s = [] := List.length_eq_zero_iff.mp (by rw [cs_len]; exact h2)
        rw [this]
        simp
    · show (List.foldl (· ++ ·) #[] (List.replicate n.toNat s.cps)).toList = _
      rw [foldl_cs]
      simp
theorem cs_join : ∀ ys : List Str, cs (Str.join ⟨#[]⟩ ys) = (ys.map cs).flatten
  | [] => rfl
  | [x] => by simp [Str.join]
  | x :: y :: r => by
    show cs (x ++ (⟨#[]⟩ : Str) ++ Str.join ⟨#[]⟩ (y :: r)) = _
    rw [cs_append, cs_append, cs_join (y :: r)]
    simp
theorem cs_tjoin (ys : List Str) : cs (Txt.join "" ys) = (ys.map cs).flatten := by
  have h := eq_of_beq (PyProof.Rows.join_plain_closes ("" : Str) ys)
  rw [h]
  exact cs_join ys
theorem str_ext {a b : Str} (h : cs a = cs b) : a = b := by
  cases a; cases b
  exact congrArg Str.mk (Array.toList_inj.mp h)
section
variable {a b : Str} {N M : Nat}
theorem StrG.append (h : StrG N a) (g : StrG M b) : StrG (N + M) (a ++ b) := by
  refine ⟨?_, fun c hc => ?_⟩
  · rw [← cs_len, cs_append, List.length_append, cs_len, cs_len]
    exact Nat.add_le_add h.1 g.1
  · have hc : c ∈ cs (a ++ b) := hc
    rw [cs_append, List.mem_append] at hc
    exact hc.elim (h.2 c) (g.2 c)
theorem cutL_len {α : Type} (xs : List α) (lo hi : Option Int) : (cutL xs lo hi).length ≤ xs.length := by
  unfold cutL
  rw [List.length_take, List.length_drop]
  omega
theorem mem_cutL {α : Type} {xs : List α} {lo hi : Option Int} {x : α} (h : x ∈ cutL xs lo hi) : x ∈ xs := List.mem_of_mem_drop (List.mem_of_mem_take h)
theorem StrG.cut (h : StrG N a) (lo hi : Option Int) : StrG N (cutS a lo hi) := by
  refine ⟨?_, fun c hc => ?_⟩
  · rw [← cs_len, cs_cut]
    exact Nat.le_trans (cutL_len _ _ _) (by rw [cs_len]; exact h.1)
  · have hc : c ∈ cs (cutS a lo hi) := hc
    rw [cs_cut] at hc
    exact h.2 c (mem_cutL hc)
theorem StrG.mul (h : StrG N a) {n : Int} (hn : n ≤ M) : StrG (N * M) (Txt.mul a n) := by
  refine ⟨?_, fun c hc => ?_⟩
  · rw [← cs_len, cs_mul, List.length_flatten]
    simp only [List.map_replicate, List.sum_replicate_nat, cs_len]
    have : n.toNat ≤ M := by omega
    rw [Nat.mul_comm N]
    exact Nat.mul_le_mul this h.1
  · have hc : c ∈ cs (Txt.mul a n) := hc
    rw [cs_mul, List.mem_flatten] at hc
    obtain ⟨l, hl, hc⟩ := hc
    rw [List.eq_of_mem_replicate hl] at hc
    exact h.2 c hc
theorem StrG.join : ∀ {ys : List Str}, (∀ y ∈ ys, StrG N y) → StrG (N * ys.length) (Txt.join "" ys) := by
  intro ys h
  refine ⟨?_, fun c hc => ?_⟩
  · rw [← cs_len, cs_tjoin, List.length_flatten]
    induction ys with
    | nil => simp
    | cons y r ih =>
      have h1 := (h y List.mem_cons_self).1
      have h2 := ih fun z hz => h z (List.mem_cons_of_mem _ hz)
      simp only [List.map_cons, List.sum_cons, List.length_cons, cs_len, Nat.mul_succ] at h2 ⊢
      omega
  · have hc : c ∈ cs (Txt.join "" ys) := hc
    rw [cs_tjoin, List.mem_flatten] at hc
    obtain ⟨l, hl, hc⟩ := hc
    obtain ⟨y, hy, rfl⟩ := List.mem_map.mp hl
    exact (h y hy).2 c hc
theorem StrG.one {c : Nat} (h : c < 0x110000) : StrG 1 ⟨#[c]⟩ := ⟨Nat.le_refl _, fun x hx => by
  have : x ∈ [c] := hx
  rw [List.mem_singleton] at this
  omega⟩
def strGB (N : Nat) (s : Str) : Bool := decide (s.length ≤ N) && (cs s).all fun c => decide (c < 0x110000)
theorem StrG.of {s : Str} (h : strGB N s = true) : StrG N s := by
  unfold strGB at h
  rw [Bool.and_eq_true, decide_eq_true_eq, List.all_eq_true] at h
  exact ⟨h.1, fun c hc => of_decide_eq_true (h.2 c hc)⟩
variable {Q : MV → Wd → Prop} {E : Exn → Wd → Prop} {w : Wd}
theorem wp_idxS {s : Str} {i : Int} (hl : s.length ≤ sizeLine) (h0 : 0 ≤ i) (h1 : i < s.length) (q : ∀ c, c ∈ cs s → (cs s)[i.toNat]? = some c → Q (.str ⟨#[c]⟩) w) : wp (idxM (.str s) (.int i)) Q E w := by
  obtain ⟨c, e1, e2⟩ := atI_nat (xs := cs s) h0 (by rw [cs_len]; exact h1)
  refine wp_of (a := .str ⟨#[c]⟩) (w' := w) ?_ (q c (List.mem_of_getElem? e2) e2)
  unfold idxM
  dsimp only
  rw [if_pos hl, e1]
theorem wp_mulS {s : Str} {n : Int} : wp (binM .Mult (.str s) (.int n)) Q E w = ((0 ≤ n ∧ n ≤ 1000000 ∧ s.length * n.toNat ≤ 10000000) ∧ Q (.str (Txt.mul s n)) w) := by
  show wp (if 0 ≤ n ∧ n ≤ 1000000 ∧ s.length * n.toNat ≤ 10000000 then ret (.str (Txt.mul s n)) else stuck) Q E w = _
  rw [wp_if, wp_ret, wp_stuck]
  split
  · next h => simp only [h, true_and, and_self]
  · next h => simp only [h, false_and]
theorem strsOf_map (ys : List Str) : strsOf (ys.map MV.str) = some ys := by
  induction ys with
  | nil => rfl
  | cons a r ih => simp only [List.map_cons, strsOf, ih, Option.map_some]
theorem wp_joinS {m : Nat} {ys : List Str} (h : w[m]? = some (.lst (ys.map MV.str))) (hl : (ys.map (·.length)).sum ≤ 16777216) : wp (bmM .join (.str "") [.ref m]) Q E w = Q (.str (Txt.join "" ys)) w := by
  refine wp_ok ?_
  unfold bmM
  simp only [bnd, itemsM, h, strsOf_map]
  rw [if_pos (by show _ + ys.length * 0 ≤ _; omega)]
theorem wp_app {m : Nat} {xs : List MV} {v : MV} (h : w[m]? = some (.lst xs)) (hl : xs.length < sizeLine) : wp (bmM .append (.ref m) [v]) Q E w = Q .non (w.set m (.lst (xs ++ [v]))) := by
  refine wp_ok ?_
  unfold bmM
  simp only [h, hl, if_true]
theorem wp_appC {m : Nat} {xs : List MV} {R : Unit → Wd → Prop} (h : w[m]? = some (.lst xs)) : wp (bmChk .append (.ref m)) R E w = R () w := by
  refine wp_ok ?_
  unfold bmChk
  simp only [h]
  rfl
theorem wp_chkL {b : Bm} {m : Nat} {xs : List MV} {R : Unit → Wd → Prop} (hb : bmLst b = true) (h : w[m]? = some (.lst xs)) : wp (bmChk b (.ref m)) R E w = R () w := by
  refine wp_ok ?_
  unfold bmChk
  simp only [h, hb, if_true]
theorem joinChk {R : Unit → Wd → Prop} (s : Str) : wp (bmChk .join (.str s)) R E w = R () w := rfl
end
end Mir
set_option Elab.async false
set_option linter.all false
set_option maxRecDepth 100000
set_option maxHeartbeats 4000000
/-! MWp4: some more forms: ranges, dicts, sums of lists, objects made. -/
namespace Mir
open PySem L2
theorem Box.mono {w : Wd} {b K K' : Nat} (h : Box w b K) (hk : K ≤ K') : Box w b K' := h.fr (ns := []) .refl (by simp) hk
section
variable {Q : MV → Wd → Prop} {E : Exn → Wd → Prop} {w : Wd} {c : Calls} {cur : Option Exn} {S : Env}
theorem wp_rng {j : Int} {R : Itm → Wd → Prop} (h0 : -(2 ^ 62) ≤ j) (h1 : j < 2 ^ 62) : wp (rngM (.int j)) R E w = R (.rng 0 j.toNat) w := by
  have e : rngM (.int j) = ret (.rng 0 j.toNat) := if_pos ⟨h0, h1⟩
  rw [e, wp_ret]
theorem wp_itmS {s : Str} {R : Itm → Wd → Prop} : wp (itmM (.str s)) R E w = R (.str (cs s)) w := rfl
theorem wp_itmT {xs : List MV} {R : Itm → Wd → Prop} : wp (itmM (.tup xs)) R E w = R (.tup xs) w := rfl
theorem wp_itmL {n : Nat} {xs : List MV} {R : Itm → Wd → Prop} (h : w[n]? = some (.lst xs)) : wp (itmM (.ref n)) R E w = R (.cell n xs.length) w := wp_ok (by unfold itmM; simp only [h])
theorem wp_dic1 {k : Str} {e : Ex} : wp (den c cur (.dic [k] [e]) S) Q E w = wp (den c cur e S) (fun v w' => match w'[w.length]? with
    | some (.dic []) => Q (.ref w.length) (w'.set w.length (.dic [(.inr k, v)]))
    | _ => False) E (w ++ [.dic []]) := by
  unfold wp
  conv => lhs; unfold den
  simp only [denL_cons, denL_nil, bnd, ret]
  cases den c cur e S (w ++ [.dic []]) with
  | ok v w' =>
    dsimp only
    cases h : w'[w.length]? with
    | none => rfl
    | some x =>
      cases x with
      | dic kvs =>
        cases kvs with
        | nil =>
          dsimp only
          rw [if_pos (by simp)]
          rfl
        | cons _ _ => rfl
      | _ => rfl
  | err _ _ => rfl
  | bad => rfl
theorem set_push {w : Wd} {c c' : Cell} : (w ++ [c]).set w.length c' = w ++ [c'] := by
  rw [List.set_append_right _ _ (Nat.le_refl _), Nat.sub_self]
  rfl
theorem wp_addL {l m : Nat} {xs ys : List MV} (h : w[l]? = some (.lst xs)) (g : w[m]? = some (.lst ys)) (hl : xs.length + ys.length ≤ sizeLine) : wp (binM .Add (.ref l) (.ref m)) Q E w = Q (.ref w.length) (w ++ [.lst (xs ++ ys)]) := by
  refine wp_ok ?_
  show addM (.ref l) (.ref m) w = _
  unfold addM
  simp only [h, g, hl, if_true]
  rfl
theorem wp_mk {C : Str} {vs : List MV} (h : wp (c.fn (C, some "__init__") (.ref w.length :: vs) []) (fun v w' => v = .non ∧ Q (.ref w.length) w') E (w ++ [.ins C []])) : wp (mkM c C vs) Q E w := by
  unfold wp mkM
  unfold wp at h
  cases e : c.fn (C, some "__init__") (.ref w.length :: vs) [] (w ++ [.ins C []]) with
  | ok v w' =>
    rw [e] at h
    obtain ⟨rfl, h⟩ := h
    exact h
  | err _ _ => rw [e] at h; exact h
  | bad => rw [e] at h; exact h
theorem at_ap {w : Wd} {c : Cell} {n : Nat} {x : Cell} (h : w[n]? = some x) : (w ++ [c])[n]? = some x := by rw [List.getElem?_append_left (lt_of_at h)]; exact h
theorem wp_idxL {n : Nat} {i : Int} {xs : List MV} {v : MV} (h : w[n]? = some (.lst xs)) (g : atI xs i = some v) : wp (idxM (.ref n) (.int i)) Q E w = Q v w := by
  rw [wp_idx, h]
  dsimp only
  rw [g]
end
end Mir
set_option Elab.async false
set_option linter.all false
set_option maxRecDepth 100000
set_option maxHeartbeats 4000000
/-! MFrm: frames: what is read of a row of signs. -/
namespace Mir
open PySem L2 TL
def mkS (l : List Nat) : Str := ⟨l.toArray⟩
theorem cs_mk (l : List Nat) : cs (mkS l) = l := rfl
theorem mk_cs (s : Str) : mkS (cs s) = s := str_ext (cs_mk _)
theorem mk_len (l : List Nat) : (mkS l).length = l.length := by rw [← cs_len, cs_mk]
def isD (c : Nat) : Bool := decide (c ∈ cs "0123456789")
theorem isD_iff {c : Nat} : isD c = true ↔ 48 ≤ c ∧ c ≤ 57 := by
  unfold isD
  have e : cs "0123456789" = [48, 49, 50, 51, 52, 53, 54, 55, 56, 57] := by decide +kernel
  rw [e, decide_eq_true_iff]
  simp only [List.mem_cons, List.not_mem_nil, or_false]
  omega
abbrev val4 (l : List Nat) : Nat := NumText.digitsVal l
def frAt (s : List Nat) (at_ : Nat) : Option (List Nat) :=
  if ((s.drop at_).take 4).length < 4 ∨ ((s.drop at_).take 4).all isD = false then none
  else if s[at_ + 4 + val4 ((s.drop at_).take 4)]? = some 46 then some ((s.drop (at_ + 4)).take (val4 ((s.drop at_).take 4))) else none
theorem frAt_len {s t : List Nat} {a : Nat} (h : frAt s a = some t) : a + 5 + t.length ≤ s.length := by
  unfold frAt at h
  split at h
  · cases h
  · split at h
    · next h1 =>
      cases h
      have := (List.getElem?_eq_some_iff.mp h1).1
      rw [List.length_take, List.length_drop]
      omega
    · cases h
def rdL : Nat → List Nat → Nat → List (List Nat) × Nat
  | 0, _, a => ([], a)
  | k + 1, s, a => match frAt s a with
    | none => ([], a)
    | some t => (t :: (rdL k s (a + 5 + t.length)).1, (rdL k s (a + 5 + t.length)).2)
theorem frAt_end {s : List Nat} {a : Nat} (h : s.length < a + 5) : frAt s a = none := by
  cases e : frAt s a with
  | none => rfl
  | some t =>
    have := frAt_len e
    omega
theorem rdL_stable : ∀ (k k' : Nat) (s : List Nat) (a : Nat), s.length < k + a → s.length < k' + a → rdL k s a = rdL k' s a
  | 0, 0, _, _, _, _ => rfl
  | 0, k' + 1, s, a, h, _ => by
    unfold rdL
    rw [frAt_end (by omega)]
  | k + 1, 0, s, a, _, h => by
    unfold rdL
    rw [frAt_end (by omega)]
  | k + 1, k' + 1, s, a, h, h' => by
    unfold rdL
    cases e : frAt s a with
    | none => rfl
    | some t => simp only [rdL_stable k k' s (a + 5 + t.length) (by omega) (by omega)]
def rd (s : List Nat) : List (List Nat) × Nat := rdL (s.length + 1) s 0
/-- read so far -/
def Rd (s : List Nat) (fs : List (List Nat)) (a : Nat) : Prop := a ≤ s.length ∧ ∀ k, s.length < k + a → rd s = (fs ++ (rdL k s a).1, (rdL k s a).2)
theorem Rd.start (s : List Nat) : Rd s [] 0 := ⟨Nat.zero_le _, fun k h => by
  unfold rd
  rw [rdL_stable (s.length + 1) k s 0 (by omega) h]
  rfl⟩
theorem Rd.step {s t : List Nat} {fs : List (List Nat)} {a : Nat} (h : Rd s fs a) (e : frAt s a = some t) : Rd s (fs ++ [t]) (a + 5 + t.length) := by
  have hl := frAt_len e
  refine ⟨hl, fun k hk => ?_⟩
  have h2 := h.2 (k + 1 + 5 + t.length) (by omega)
  rw [rdL_stable (k + 1 + 5 + t.length) (k + 5 + t.length + 1) s a (by omega) (by omega)] at h2
  unfold rdL at h2
  rw [e] at h2
  dsimp only at h2
  rw [rdL_stable (k + 5 + t.length) k s (a + 5 + t.length) (by omega) (by omega)] at h2
  rw [h2, List.append_assoc]
  rfl
theorem Rd.stop {s : List Nat} {fs : List (List Nat)} {a : Nat} (h : Rd s fs a) (e : frAt s a = none) : rd s = (fs, a) := by
  have h2 := h.2 (s.length + 1) (by omega)
  unfold rdL at h2
  rw [e] at h2
  simpa using h2
/-! ### frames -/
def num4 (n : Nat) : List Nat := List.replicate (4 - (numL n).length) 48 ++ numL n
def frm (t : List Nat) : List Nat := num4 t.length ++ t ++ [46]
theorem numL_le4 {n : Nat} (h : n ≤ 9999) : (numL n).length ≤ 4 := numL_len (by decide) (by omega)
theorem num4_len {n : Nat} (h : n ≤ 9999) : (num4 n).length = 4 := by
  have := numL_le4 h
  unfold num4
  rw [List.length_append, List.length_replicate]
  omega
theorem num4_dig (n : Nat) : (num4 n).all isD = true := by
  rw [List.all_eq_true]
  intro c hc
  rw [isD_iff]
  unfold num4 at hc
  rw [List.mem_append] at hc
  rcases hc with hc | hc
  · rw [List.eq_of_mem_replicate hc]; omega
  · exact numL_digits n c hc
theorem val_rep (k : Nat) (l : List Nat) : NumText.digitsVal (List.replicate k 48 ++ l) = NumText.digitsVal l := by
  unfold NumText.digitsVal
  rw [List.foldl_append]
  congr 1
  induction k with
  | zero => rfl
  | succ k ih => rw [List.replicate_succ, List.foldl_cons]; exact ih
theorem num4_val (n : Nat) : val4 (num4 n) = n := by
  unfold num4 val4
  rw [val_rep]
  exact numL_val n
theorem frm_len {t : List Nat} (h : t.length ≤ 9999) : (frm t).length = t.length + 5 := by
  unfold frm
  rw [List.length_append, List.length_append, num4_len h]
  simp only [List.length_cons, List.length_nil]
  omega
theorem frAt_frm {t : List Nat} (h : t.length ≤ 9999) (p q : List Nat) : frAt (p ++ (frm t ++ q)) p.length = some t := by
  have h4 := num4_len h
  have e1 : ((p ++ (frm t ++ q)).drop p.length).take 4 = num4 t.length := by
    rw [List.drop_left]
    unfold frm
    rw [List.append_assoc, List.append_assoc]
    exact List.take_left' h4
  have e2 : (p ++ (frm t ++ q)).drop (p.length + 4) = t ++ ([46] ++ q) := by
    rw [← List.drop_drop, List.drop_left]
    unfold frm
    rw [List.append_assoc, List.append_assoc]
    exact List.drop_left' h4
  unfold frAt
  rw [e1, num4_val, num4_dig, h4, if_neg (by simp)]
  have e3 : (p ++ (frm t ++ q))[p.length + 4 + t.length]? = some 46 := by
    have : (p ++ (frm t ++ q))[p.length + 4 + t.length]? = ((p ++ (frm t ++ q)).drop (p.length + 4))[t.length]? := by rw [List.getElem?_drop]
    rw [this, e2, List.getElem?_append_right (Nat.le_refl _), Nat.sub_self]
    rfl
  rw [e3, if_pos rfl, e2, List.take_left]
theorem frAt_cut {t : List Nat} (h : t.length ≤ 9999) (p : List Nat) {c : Nat} (hc : c < t.length + 5) : frAt (p ++ (frm t).take c) p.length = none := by
  have h4 := num4_len h
  have hf := frm_len h
  unfold frAt
  rw [List.drop_left]
  by_cases hc4 : c < 4
  · rw [if_pos (.inl (by rw [List.length_take, List.length_take]; omega))]
  · have e1 : ((frm t).take c).take 4 = num4 t.length := by
      rw [List.take_take, Nat.min_eq_left (by omega)]
      unfold frm
      rw [List.append_assoc]
      exact List.take_left' h4
    rw [e1, num4_val, num4_dig, h4, if_neg (by simp), if_neg]
    rw [List.getElem?_eq_none]
    · simp
    · rw [List.length_append, List.length_take]
      omega
def rowL (ts : List (List Nat)) : List Nat := (ts.map frm).flatten
def endsF : Nat → List (List Nat) → List Nat
  | a, [] => [a]
  | a, t :: ts => a :: endsF (a + t.length + 5) ts
theorem endsF_ge : ∀ (ts : List (List Nat)) (a x : Nat), x ∈ endsF a ts → a ≤ x
  | [], a, x, h => by
    unfold endsF at h
    rw [List.mem_singleton] at h
    omega
  | t :: ts, a, x, h => by
    unfold endsF at h
    rw [List.mem_cons] at h
    rcases h with h | h
    · omega
    · have := endsF_ge ts _ x h
      omega
theorem endsF_len : ∀ (ts : List (List Nat)) (a : Nat), (endsF a ts).length = ts.length + 1
  | [], _ => rfl
  | t :: ts, a => by
    unfold endsF
    rw [List.length_cons, endsF_len ts, List.length_cons]
theorem cut_rd : ∀ (ts : List (List Nat)) (p : List Nat) (a c k : Nat), (∀ t ∈ ts, t.length ≤ 9999) → p.length = a → a ≤ c → (p ++ (rowL ts).take (c - a)).length < k + a →
    rdL k (p ++ (rowL ts).take (c - a)) a = (ts.take (((endsF a ts).filter fun x => decide (x ≤ c)).length - 1), (endsF a ts).getD (((endsF a ts).filter fun x => decide (x ≤ c)).length - 1) 0)
  | [], p, a, c, k, _, hp, hc, hk => by
    have e : rdL k (p ++ (rowL []).take (c - a)) a = ([], a) := by
      cases k with
      | zero => rfl
      | succ k =>
        unfold rdL
        rw [frAt_end (by simp [rowL, hp])]
    rw [e]
    unfold endsF
    rw [List.filter_cons, decide_eq_true hc]
    rfl
  | t :: ts, p, a, c, k, ht, hp, hc, hk => by
    have h9 := ht t List.mem_cons_self
    have hf := frm_len h9
    have er : rowL (t :: ts) = frm t ++ rowL ts := by unfold rowL; rw [List.map_cons, List.flatten_cons]
    have h1 : (endsF a (t :: ts)).filter (fun x => decide (x ≤ c)) = a :: (endsF (a + t.length + 5) ts).filter (fun x => decide (x ≤ c)) := by
      conv => lhs; unfold endsF
      rw [List.filter_cons, if_pos (decide_eq_true hc)]
    rw [h1]
    cases k with
    | zero =>
      rw [List.length_append] at hk
      omega
    | succ k =>
      by_cases hcc : c - a < t.length + 5
      · have e : (rowL (t :: ts)).take (c - a) = (frm t).take (c - a) := by
          rw [er, List.take_append_of_le_length (by omega)]
        have e2 : (endsF (a + t.length + 5) ts).filter (fun x => decide (x ≤ c)) = [] := by
          rw [List.filter_eq_nil_iff]
          intro x hx
          have := endsF_ge ts _ x hx
          simp only [decide_eq_true_eq]
          omega
        rw [e, e2]
        unfold rdL
        have := frAt_cut h9 p hcc
        rw [hp] at this
        rw [this]
        unfold endsF
        rfl
      · have e : (rowL (t :: ts)).take (c - a) = frm t ++ (rowL ts).take (c - (a + t.length + 5)) := by
          rw [er, List.take_append, List.take_of_length_le (by omega), hf]
          congr 2
          omega
        have ih := cut_rd ts (p ++ frm t) (a + t.length + 5) c k (fun x hx => ht x (List.mem_cons_of_mem _ hx)) (by rw [List.length_append, hf]; omega) (by omega) (by
          rw [e] at hk
          rw [List.append_assoc]
          omega)
        rw [List.append_assoc] at ih
        rw [e]
        have hfr := frAt_frm h9 p ((rowL ts).take (c - (a + t.length + 5)))
        rw [hp] at hfr
        conv => lhs; unfold rdL
        rw [hfr]
        dsimp only
        have ea : a + 5 + t.length = a + t.length + 5 := by omega
        rw [ea, ih]
        have hne : 1 ≤ ((endsF (a + t.length + 5) ts).filter fun x => decide (x ≤ c)).length := by
          have : a + t.length + 5 ∈ (endsF (a + t.length + 5) ts).filter fun x => decide (x ≤ c) := by
            rw [List.mem_filter]
            refine ⟨?_, decide_eq_true (by omega)⟩
            cases ts <;> simp [endsF]
          exact List.length_pos_of_mem this
        generalize hm : ((endsF (a + t.length + 5) ts).filter fun x => decide (x ≤ c)).length = m at hne ⊢
        obtain ⟨m, rfl⟩ : ∃ m', m = m' + 1 := ⟨m - 1, by omega⟩
        rw [List.length_cons, hm]
        have e3 : m + 1 + 1 - 1 = m + 1 := rfl
        have e4 : m + 1 - 1 = m := rfl
        rw [e3, e4, List.take_succ_cons]
        conv => rhs; arg 2; arg 1; unfold endsF
        rw [List.getD_cons_succ]
theorem row_rd : ∀ (ts : List (List Nat)) (p : List Nat) (a k : Nat), (∀ t ∈ ts, t.length ≤ 9999) → p.length = a → (p ++ rowL ts).length < k + a → rdL k (p ++ rowL ts) a = (ts, a + (rowL ts).length)
  | [], p, a, k, _, hp, hk => by
    cases k with
    | zero => rfl
    | succ k =>
      unfold rdL
      rw [frAt_end (by simp [rowL, hp])]
      rfl
  | t :: ts, p, a, k, ht, hp, hk => by
    have h9 := ht t List.mem_cons_self
    have hf := frm_len h9
    have er : rowL (t :: ts) = frm t ++ rowL ts := by unfold rowL; rw [List.map_cons, List.flatten_cons]
    cases k with
    | zero =>
      rw [List.length_append] at hk
      omega
    | succ k =>
      have ih := row_rd ts (p ++ frm t) (a + t.length + 5) k (fun x hx => ht x (List.mem_cons_of_mem _ hx)) (by rw [List.length_append, hf]; omega) (by
        rw [er] at hk
        rw [List.append_assoc]
        omega)
      rw [List.append_assoc] at ih
      have hfr := frAt_frm h9 p (rowL ts)
      rw [hp] at hfr
      rw [er]
      conv => lhs; unfold rdL
      rw [hfr]
      dsimp only
      have ea : a + 5 + t.length = a + t.length + 5 := by omega
      rw [ea, ih, List.length_append, hf]
      congr 1
      omega
theorem rd_row {ts : List (List Nat)} (h : ∀ t ∈ ts, t.length ≤ 9999) : rd (rowL ts) = (ts, (rowL ts).length) := by
  have := row_rd ts [] 0 ((rowL ts).length + 1) h rfl (by simp)
  unfold rd
  simpa using this
theorem rd_cut {ts : List (List Nat)} (h : ∀ t ∈ ts, t.length ≤ 9999) (c : Nat) : rd ((rowL ts).take c) = (ts.take (((endsF 0 ts).filter fun x => decide (x ≤ c)).length - 1), (endsF 0 ts).getD (((endsF 0 ts).filter fun x => decide (x ≤ c)).length - 1) 0) := by
  have := cut_rd ts [] 0 c (((rowL ts).take c).length + 1) h rfl (Nat.zero_le _) (by simp)
  unfold rd
  simpa using this
theorem rdL_facts : ∀ (k : Nat) (s : List Nat) (a : Nat), a ≤ s.length → (rdL k s a).2 ≤ s.length ∧ a + ((rdL k s a).1.map fun t => t.length + 5).sum = (rdL k s a).2 ∧ ∀ t ∈ (rdL k s a).1, ∀ c ∈ t, c ∈ s
  | 0, s, a, h => ⟨h, rfl, fun t ht => by cases ht⟩
  | k + 1, s, a, h => by
    unfold rdL
    cases e : frAt s a with
    | none => exact ⟨h, rfl, fun t ht => by cases ht⟩
    | some t =>
      have hl := frAt_len e
      obtain ⟨h1, h2, h3⟩ := rdL_facts k s (a + 5 + t.length) (by omega)
      refine ⟨h1, ?_, fun x hx c hc => ?_⟩
      · dsimp only
        rw [List.map_cons, List.sum_cons, ← h2]
        omega
      · dsimp only at hx
        rw [List.mem_cons] at hx
        rcases hx with rfl | hx
        · unfold frAt at e
          split at e
          · cases e
          · split at e
            · cases e
              exact List.mem_of_mem_drop (List.mem_of_mem_take hc)
            · cases e
        · exact h3 x hx c hc
theorem rd_facts (s : List Nat) : (rd s).2 ≤ s.length ∧ ((rd s).1.map fun t => t.length + 5).sum = (rd s).2 ∧ ∀ t ∈ (rd s).1, ∀ c ∈ t, c ∈ s := by
  obtain ⟨h1, h2, h3⟩ := rdL_facts (s.length + 1) s 0 (Nat.zero_le _)
  exact ⟨h1, by rw [Nat.zero_add] at h2; exact h2, h3⟩
end Mir
set_option Elab.async false
set_option linter.all false
set_option maxRecDepth 100000
set_option maxHeartbeats 4000000
/-! MWp5: signs by a property; more forms. -/
namespace Mir
open PySem L2 TL
structure StrP (P : Nat → Prop) (N : Nat) (s : Str) : Prop where
  le : s.length ≤ N
  al : ∀ c ∈ cs s, P c
abbrev okP (c : Nat) : Prop := okC c = true
section
variable {P : Nat → Prop} {N M : Nat} {a b : Str}
theorem StrP.mono (h : StrP P N a) (l : N ≤ M) : StrP P M a := ⟨Nat.le_trans h.le l, h.al⟩
theorem StrP.append (h : StrP P N a) (g : StrP P M b) : StrP P (N + M) (a ++ b) := by
  refine ⟨?_, fun c hc => ?_⟩
  · rw [← cs_len, cs_append, List.length_append, cs_len, cs_len]
    exact Nat.add_le_add h.le g.le
  · rw [cs_append, List.mem_append] at hc
    exact hc.elim (h.al c) (g.al c)
theorem StrP.cut (h : StrP P N a) (lo hi : Option Int) : StrP P N (cutS a lo hi) := by
  refine ⟨?_, fun c hc => ?_⟩
  · rw [← cs_len, cs_cut]
    exact Nat.le_trans (cutL_len _ _ _) (by rw [cs_len]; exact h.le)
  · rw [cs_cut] at hc
    exact h.al c (mem_cutL hc)
theorem mul_len {s : Str} {n : Int} : (Txt.mul s n).length = s.length * n.toNat := by
  rw [← cs_len, cs_mul, List.length_flatten]
  simp only [List.map_replicate, List.sum_replicate_nat, cs_len]
  rw [Nat.mul_comm]
theorem StrP.mul (h : StrP P N a) {n : Int} (hn : n ≤ M) : StrP P (N * M) (Txt.mul a n) := by
  refine ⟨?_, fun c hc => ?_⟩
  · rw [mul_len]
    exact Nat.mul_le_mul h.le (by omega)
  · rw [cs_mul, List.mem_flatten] at hc
    obtain ⟨l, hl, hc⟩ := hc
    rw [List.eq_of_mem_replicate hl] at hc
    exact h.al c hc
theorem StrP.join {ys : List Str} (h : ∀ y ∈ ys, StrP P N y) : StrP P (N * ys.length) (Txt.join "" ys) := by
  refine ⟨?_, fun c hc => ?_⟩
  · rw [← cs_len, cs_tjoin, List.length_flatten]
    induction ys with
    | nil => simp
    | cons y r ih =>
      have h1 := (h y List.mem_cons_self).le
      have h2 := ih fun z hz => h z (List.mem_cons_of_mem _ hz)
      simp only [List.map_cons, List.sum_cons, List.length_cons, cs_len, Nat.mul_succ] at h2 ⊢
      omega
  · rw [cs_tjoin, List.mem_flatten] at hc
    obtain ⟨l, hl, hc⟩ := hc
    obtain ⟨y, hy, rfl⟩ := List.mem_map.mp hl
    exact (h y hy).al c hc
theorem StrP.one {c : Nat} (h : P c) : StrP P 1 ⟨#[c]⟩ := ⟨Nat.le_refl _, fun x hx => by
  have hx : x ∈ [c] := hx
  rw [List.mem_singleton] at hx
  rw [hx]; exact h⟩
theorem okC_iff {c : Nat} : okC c = true ↔ 32 ≤ c ∧ c ≤ 126 := by
  unfold okC strLt
  have e1 : cs (" " : Str) = [32] := by decide +kernel
  have e2 : cs ("~" : Str) = [126] := by decide +kernel
  show (!decide (cs ⟨#[c]⟩ < cs " ") && !decide (cs "~" < cs ⟨#[c]⟩)) = true ↔ _
  rw [e1, e2, cs_one]
  have one : ∀ a b : Nat, ([a] < [b]) ↔ a < b := fun a b => by
    constructor
    · intro h
      cases h with
      | rel h => exact h
      | cons h => cases h
    · exact fun h => List.Lex.rel h
  have h1 : ([c] < [32]) ↔ c < 32 := one c 32
  have h2 : ([126] < [c]) ↔ 126 < c := one 126 c
  rw [Bool.and_eq_true, Bool.not_eq_true', Bool.not_eq_true', decide_eq_false_iff_not, decide_eq_false_iff_not, h1, h2]
  omega
theorem StrP.of {s : Str} (h : (decide (s.length ≤ N) && (cs s).all okC) = true) : StrP okP N s := by
  rw [Bool.and_eq_true, decide_eq_true_eq, List.all_eq_true] at h
  exact ⟨h.1, fun c hc => h.2 c hc⟩
theorem StrP.toG (h : StrP okP N a) : StrG N a := ⟨h.le, fun c hc => by
  have := okC_iff.mp (h.al c hc)
  omega⟩
theorem isSg_of (h : StrP okP N a) : isSg (.str a) = true := by
  unfold isSg
  rw [List.all_eq_true]
  exact fun c hc => h.al c hc
end
/-! ### cuts by naturals -/
theorem cutL_nat {α : Type} (xs : List α) (a b : Nat) : cutL xs (some (a : Int)) (some (b : Int)) = (xs.drop a).take (b - a) := by
  unfold cutL
  have h1 : HT.sIx xs.length 0 (some (a : Int)) = min a xs.length := HT.sIx_nat _ _ _
  have h2 : HT.sIx xs.length xs.length (some (b : Int)) = min b xs.length := HT.sIx_nat _ _ _
  rw [h1, h2]
  by_cases ha : a ≤ xs.length
  · rw [Nat.min_eq_left ha]
    by_cases hb : b ≤ xs.length
    · rw [Nat.min_eq_left hb]
    · rw [Nat.min_eq_right (by omega), List.take_of_length_le (by rw [List.length_drop]; omega), List.take_of_length_le (by rw [List.length_drop]; omega)]
  · have e1 : min a xs.length = xs.length := Nat.min_eq_right (by omega)
    rw [e1, List.drop_of_length_le (Nat.le_refl _), List.drop_of_length_le (by omega)]
    simp
theorem cutL_pre {α : Type} (xs : List α) (b : Nat) : cutL xs none (some (b : Int)) = xs.take b := by
  have h := cutL_nat xs 0 b
  rw [List.drop_zero, Nat.sub_zero] at h
  rw [← h]
  rfl
theorem cutL_suf {α : Type} (xs : List α) (a : Nat) : cutL xs (some (a : Int)) none = xs.drop a := by
  have h := cutL_nat xs a xs.length
  rw [List.take_of_length_le (by rw [List.length_drop]; omega)] at h
  rw [← h]
  unfold cutL
  have h2 : HT.sIx xs.length xs.length (some (xs.length : Int)) = xs.length := by rw [HT.sIx_nat, Nat.min_self]
  have h3 : HT.sIx xs.length xs.length none = xs.length := rfl
  rw [h2, h3]
section
variable {Q : MV → Wd → Prop} {E : Exn → Wd → Prop} {w : Wd} {c : Calls} {cur : Option Exn} {S : Env}
theorem wp_in1 {x : Nat} {z : Str} : wp (cmpM .In (.str ⟨#[x]⟩) (.str z)) Q E w = Q (.bl (decide (x ∈ cs z))) w := rfl
theorem wp_notIn1 {x : Nat} {z : Str} : wp (cmpM .NotIn (.str ⟨#[x]⟩) (.str z)) Q E w = Q (.bl (!decide (x ∈ cs z))) w := rfl
theorem wp_intS {s : Str} (h1 : (cs s).all isD = true) (h2 : cs s ≠ []) (h3 : s.length ≤ 640) : wp (biM .int [.str s]) Q E w = Q (.int (val4 (cs s) : Nat)) w := by
  have e : intText? s = some ((NumText.digitsVal (cs s) : Nat) : Int) := PySem.intText_digits (x := s) (fun c hc => isD_iff.mp (List.all_eq_true.mp h1 c hc)) h2 (by omega)
  refine wp_ok ?_
  show (if s.length ≤ 640 ∧ (intText? s).isSome then ret (MV.int ((intText? s).getD 0)) else stuck) w = _
  rw [if_pos ⟨h3, by rw [e]; rfl⟩, e]
  rfl
theorem wp_strI {i : Int} (h : i.natAbs.log2 < 1920) : wp (biM .str [.int i]) Q E w = Q (.str (Str.ofString (toString i))) w := by
  refine wp_ok ?_
  show (if i.natAbs.log2 < 1920 then ret (MV.str (toString i)) else stuck) w = _
  rw [if_pos h]
  rfl
theorem wp_lrg {n : Nat} (h : n ≤ 16777216) : wp (lrgM (.int n)) Q E w = Q (.ref w.length) (w ++ [.lst ((List.range n).map fun k : Nat => MV.int (k : Int))]) := by
  refine wp_ok ?_
  unfold lrgM
  dsimp only
  rw [if_pos ⟨by omega, by omega⟩]
  rfl
theorem intsOf_mp {α : Type} (f : α → Int) (xs : List α) : intsOf (xs.map fun x => MV.int (f x)) = some (xs.map f) := by
  induction xs with
  | nil => rfl
  | cons a r ih => simp only [List.map_cons, intsOf, ih, Option.map_some]
theorem wp_sorted {m : Nat} {ns : List Int} (h : w[m]? = some (.lst (ns.map MV.int))) : wp (biM .sorted [.ref m]) Q E w = Q (.ref w.length) (w ++ [.lst ((ns.mergeSort (fun a b => decide (a ≤ b))).map MV.int)]) := by
  refine wp_ok ?_
  unfold biM
  simp only [bnd, itemsM, h, intsOf_map]
  rfl
theorem wp_ins {m : Nat} {xs : List MV} {i : Int} {v : MV} (h : w[m]? = some (.lst xs)) (hl : xs.length < sizeLine) (h0 : 0 ≤ i) (h1 : i < 2 ^ 63) : wp (bmM .insert (.ref m) [.int i, v]) Q E w = Q .non (w.set m (.lst (xs.take i.toNat ++ [v] ++ xs.drop i.toNat))) := by
  refine wp_ok ?_
  unfold bmM
  simp only [h, hl, h0, h1, and_self, if_true]
theorem wp_rev {m : Nat} {xs : List MV} (h : w[m]? = some (.lst xs)) : wp (bmM .reverse (.ref m) []) Q E w = Q .non (w.set m (.lst xs.reverse)) := by
  refine wp_ok ?_
  unfold bmM
  simp only [h]
theorem wp_slcL {m : Nat} {xs : List MV} {lo hi : Option Int} (h : w[m]? = some (.lst xs)) : wp (slcM lo hi (.ref m)) Q E w = Q (.ref w.length) (w ++ [.lst (cutL xs lo hi)]) := by
  refine wp_ok ?_
  unfold slcM
  simp only [h]
  rfl
theorem wp_lenL {m : Nat} {xs : List MV} (h : w[m]? = some (.lst xs)) : wp (biM .len [.ref m]) Q E w = Q (.int xs.length) w := by
  rw [wp_len, h]
theorem wp_repL {m : Nat} {xs : List MV} {k : Int} (h : w[m]? = some (.lst xs)) (h0 : 0 ≤ k) (h1 : k < 2 ^ 63) (hl : xs.length * k.toNat ≤ sizeLine) : wp (binM .Mult (.ref m) (.int k)) Q E w = Q (.ref w.length) (w ++ [.lst (List.replicate k.toNat xs).flatten]) := by
  refine wp_ok ?_
  show mulM (.ref m) (.int k) w = _
  unfold mulM
  simp only [h]
  rw [if_pos ⟨by omega, h1, hl⟩]
  rfl
theorem mEqs2 (c : Calls) (cur : Option Exn) :
    (∀ es, den c cur (.fst es) = fun S => denJ c cur es Str.empty S) ∧ (∀ z e, den c cur (.fmt z e) = fun S => bnd (den c cur e S) fun v => fmtM z v) ∧ (∀ e, den c cur (.lrg e) = fun S => bnd (den c cur e S) fun v => lrgM v) ∧
    (denJ c cur [] = fun acc _ => ret (.str acc)) ∧ (∀ e es, denJ c cur (e :: es) = fun acc S => bnd (den c cur e S) fun v => joinS (fun a => denJ c cur es a S) acc v) ∧
    (∀ i e b, exe c cur (.wlw i e b) = fun S => wlwL (fun S => den c cur e S) i (fun S => exeL c cur b S) whileN S) :=
  ⟨den_fst, den_fmt, den_lrg, denJ_nil, denJ_cons, exe_wlw⟩
theorem wp_joinStep {k : Str → M MV} {acc y : Str} : wp (joinS k acc (.str y)) Q E w = ((acc ++ y).length ≤ sizeLine ∧ wp (k (acc ++ y)) Q E w) := by
  show wp (if (acc ++ y).length ≤ sizeLine then k (acc ++ y) else stuck) Q E w = _
  rw [wp_if, wp_stuck]
  split
  · next h => simp only [h, true_and]
  · next h => simp only [h, false_and]
theorem wp_fmtS {s : Str} : wp (fmtM false (.str s)) Q E w = (s.length ≤ sizeLine ∧ Q (.str s) w) := by
  show wp (if false = false ∧ s.length ≤ sizeLine then ret (.str s) else stuck) Q E w = _
  rw [wp_if, wp_ret, wp_stuck]
  split
  · next h => simp only [h.2, true_and]
  · next h => simp only [true_and] at h; simp only [h, false_and]
theorem wp_fmt4 {i : Int} (h0 : 0 ≤ i) (h1 : i < 10000) : wp (fmtM true (.int i)) Q E w = Q (.str (zero4 (Str.ofString (toString i)))) w := by
  refine wp_ok ?_
  unfold fmtM
  dsimp only
  rw [if_neg (by simp), if_pos ⟨h0, h1⟩]
  rfl
/-- while (x := e) is not None -/
theorem wp_wlw {val : Env → M MV} {i : Nat} {body : Env → M Fl} {D : Ds} (I : Nat → Env → Wd → Prop)
    (step : ∀ k S w, I k S w → wp (val S) (fun v w' => if isNon v = true then D.nx (S.set i (some v)) w' else ∃ k', k = k' + 1 ∧ xw (body (S.set i (some v))) { D with nx := I k', ct := I k', bk := D.nx } w') (fun e w' => D.ex e S w') w) :
    ∀ (N k : Nat) (S : Env) (w : Wd), k < N → I k S w → xw (wlwL val i body N S) D w := by
  intro N
  induction N with
  | zero => intro k S w hk; omega
  | succ N ih =>
    intro k S w hk hI
    have h := step k S w hI
    unfold wlwL
    rw [xw_bnd]
    refine wp_mono h (fun v w' hv => ?_) (fun _ _ z => z)
    split at hv
    · next hn =>
      rw [if_pos hn]
      exact hv
    · next hn =>
      rw [if_neg hn]
      obtain ⟨k', rfl, hb⟩ := hv
      unfold xw wp at hb ⊢
      dsimp only
      cases e : body (S.set i (some v)) w' with
      | ok fl w2 =>
        rw [e] at hb
        cases fl with
        | nx S' => exact ih k' S' w2 (by omega) hb
        | ct S' => exact ih k' S' w2 (by omega) hb
        | bk S' => exact hb
        | rt u => exact hb
        | ex x S' => exact hb
      | err x w2 => rw [e] at hb; exact hb.elim
      | bad => rw [e] at hb; exact hb.elim
end
end Mir
set_option Elab.async false
set_option linter.all false
set_option maxRecDepth 100000
set_option maxHeartbeats 4000000
/-! MWp6: pure comprehensions; data that is equal and shown alike. -/
namespace Mir
open PySem L2 TL
theorem filterMap_some {α β : Type} (f : α → β) (xs : List α) : xs.filterMap (fun c => some (f c)) = xs.map f := by
  induction xs with
  | nil => rfl
  | cons a r ih => rw [List.filterMap_cons, ih, List.map_cons]
section
variable {Q : MV → Wd → Prop} {E : Exn → Wd → Prop} {w : Wd}
/-- [.. for .. in ..] whose turns leave the world as it is -/
theorem wp_compP {it : Itm} {body : MV → M (Option MV)} (xs : List MV) (g : MV → Option MV) (hx : ∀ c i, it.at (w ++ [.lst c]) i = xs[i]?) (hlen : it.len = xs.length) (hfin : ∀ c, it.fin (w ++ [.lst c]) = true) (hl : xs.length < sizeLine)
    (hb : ∀ x ∈ xs, ∀ (c : List MV) (R : Option MV → Wd → Prop), R (g x) (w ++ [.lst c]) → wp (body x) R NoE (w ++ [.lst c])) (q : Q (.ref w.length) (w ++ [.lst (xs.filterMap g)])) : wp (compM it body) Q E w := by
  refine wp_comp (fun i acc u => acc = (xs.take i).filterMap g ∧ u = w ++ [.lst acc]) ⟨rfl, rfl⟩ (fun i acc u hi ⟨ha, hu⟩ => ?_) (fun acc u ⟨ha, hu⟩ => ?_)
  · have hi' : i < xs.length := by omega
    refine ⟨xs[i], ?_, ?_⟩
    · rw [hu, hx, List.getElem?_eq_getElem hi']
    · rw [hu]
      refine hb _ (List.getElem_mem hi') acc _ ?_
      have e : (xs.take (i + 1)).filterMap g = acc ++ (match g xs[i] with | none => [] | some y => [y]) := by
        rw [List.take_succ_eq_append_getElem hi', List.filterMap_append, ← ha]
        congr 1
        cases hg : g xs[i] <;> simp [hg]
      cases hg : g xs[i] with
      | none =>
        rw [hg] at e
        exact ⟨by rw [e]; simp, rfl⟩
      | some y =>
        rw [hg] at e
        refine ⟨at_push, ?_, by rw [e], by rw [set_push]⟩
        rw [ha]
        have h1 : ((xs.take i).filterMap g).length ≤ (xs.take i).length := List.length_filterMap_le _ _
        rw [List.length_take] at h1
        omega
  · rw [hlen, List.take_length] at ha
    subst hu ha
    exact ⟨hfin _, q⟩
theorem wp_compStr {s : Str} {body : MV → M (Option MV)} (g : Nat → Option MV) (hl : s.length < sizeLine)
    (hb : ∀ x ∈ cs s, ∀ (c : List MV) (R : Option MV → Wd → Prop), R (g x) (w ++ [.lst c]) → wp (body (.str ⟨#[x]⟩)) R NoE (w ++ [.lst c])) (q : Q (.ref w.length) (w ++ [.lst ((cs s).filterMap g)])) : wp (compM (.str (cs s)) body) Q E w := by
  refine wp_compP ((cs s).map fun c => MV.str ⟨#[c]⟩) (fun v => match v with | .str z => g (cs z).head! | _ => none) (fun c i => ?_) (by simp [Itm.len]) (fun c => rfl) (by rw [List.length_map, cs_len]; exact hl) (fun x hx c R r => ?_) ?_
  · show ((cs s)[i]?).map _ = _
    rw [List.getElem?_map]
  · obtain ⟨y, hy, rfl⟩ := List.mem_map.mp hx
    exact hb y hy c R r
  · rw [List.filterMap_map]
    exact q
theorem wp_eqD {a b : MV} {d : PyData} (h1 : toD deepest w a = some d) (h2 : toD deepest w b = some d) (hs : SeqAt.shaped d = true) : wp (cmpM .Eq a b) Q E w = Q (.bl true) w := by
  have hc := SeqAt.canLay_of_shaped hs
  have he := SeqAt.eqv_refl d hc
  refine wp_ok ?_
  have e0 : cmpM .Eq a b = eqM a b := by
    unfold cmpM
    rfl
  rw [e0]
  unfold eqM
  split
  · next x y =>
    unfold toD at h1 h2
    cases h1
    cases h2
    rw [decide_eq_true rfl]
    rfl
  · simp only [h1, h2, hs, and_self, if_true, he]
theorem wp_eqRepr {a b : MV} {d : PyData} (h1 : toD deepest w a = some d) (h2 : toD deepest w b = some d) (s : Shows d) : wp (biM .repr [a]) (fun x u => wp (biM .repr [b]) (fun y u => wp (cmpM .Eq x y) Q E u) E u) E w = Q (.bl true) w := by
  rw [wp_repr h1 s, wp_repr h2 s]
  have e : cmpM .Eq (.str d.shown) (.str d.shown) = ret (.bl (decide (d.shown = d.shown))) := rfl
  rw [e, wp_ret, decide_eq_true rfl]
end
theorem xw_augI {c : Calls} {cur : Option Exn} {S : Mir.Env} {D : Ds} {w : Wd} {i : Nat} {op : Operator} {e : Ex} {z : Int} (hS : S[i]? = some (some (MV.int z))) : xw (exe c cur (.aug i op e) S) D w = wp (den c cur e S) (fun v u' => wp (binM op (.int z) v) (fun y u'' => D.nx (S.set i (some y)) u'') (fun e u'' => D.ex e S u'') u') (fun e u' => D.ex e S u') w := by
  have : exe c cur (.aug i op e) S = bndX S (den c cur e S) fun u => bndX S (binM op (.int z) u) fun y => Mir.ret (.nx (S.set i (some y))) := by
    unfold exe
    simp only [hS]
  rw [this, xw_bnd]
  simp only [xw_bnd, xw_ret]
  rfl
/-! ### lists of texts as data -/
theorem strs_D (g : Nat) (w : Wd) : ∀ ts : List Str, (ts.map MV.str).mapM (toD g w) = some (ts.map PyData.str)
  | [] => rfl
  | t :: r => by
    rw [List.map_cons, List.mapM_cons, strs_D g w r]
    have : toD g w (.str t) = some (.str t) := by unfold toD; rfl
    rw [this]
    rfl
/-- how much some texts weigh -/
def wt (ts : List Str) : Nat := (ts.map fun t => t.length + 1).sum
theorem strs_sm : ∀ ts : List Str, (∀ t ∈ ts, ∀ c ∈ cs t, c < 0x110000) → SmL (wt ts) 0 (ts.map PyData.str) ∧ PyData.canLayAll0 (ts.map PyData.str) = true
  | [], _ => ⟨SmL.nil, rfl⟩
  | t :: r, h => by
    obtain ⟨h1, h2⟩ := strs_sm r fun x hx => h x (List.mem_cons_of_mem _ hx)
    have ht := h t List.mem_cons_self
    refine ⟨(SmL.cons (sm_str (N := t.length) ⟨Nat.le_refl _, ht⟩) h1).mono (by unfold wt; simp only [List.map_cons, List.sum_cons]; omega) (by omega), ?_⟩
    simp only [List.map_cons, PyData.canLayAll0, h2, Bool.and_true, PyData.canLay0]
    unfold PyData.strOk
    rw [← Array.all_toList, List.all_eq_true]
    exact fun c hc => decide_eq_true (ht c hc)
def frD (ts : List Str) (g : Int) : PyData := .tuple [.list (ts.map .str), .int g]
theorem frD_of {w : Wd} {r : Nat} {ts : List Str} {g : Int} (h : w[r]? = some (.lst (ts.map MV.str))) (k : Nat) : toD (k + 2) w (.tup [.ref r, .int g]) = some (frD ts g) := by
  have h1 : toD (k + 1) w (.ref r) = some (.list (ts.map .str)) := by
    unfold toD
    rw [h]
    dsimp only
    rw [strs_D]
    rfl
  have h2 : toD (k + 1) w (.int g) = some (.int g) := by unfold toD; rfl
  unfold toD
  rw [List.mapM_cons, List.mapM_cons, h1, h2]
  rfl
theorem frD_sm {ts : List Str} {g : Int} (h : ∀ t ∈ ts, ∀ c ∈ cs t, c < 0x110000) (hg : g.natAbs < 10 ^ 30) : Sm (wt ts + 102) 2 (frD ts g) ∧ SeqAt.shaped (frD ts g) = true := by
  obtain ⟨h1, h2⟩ := strs_sm ts h
  have sm : Sm (wt ts + 102) 2 (frD ts g) := (SmL.tuple (SmL.cons h1.list (SmL.cons (sm_int hg) SmL.nil))).mono (by omega) (by omega)
  refine ⟨sm, ?_⟩
  unfold SeqAt.shaped
  rw [Bool.and_eq_true]
  refine ⟨?_, decide_eq_true (Nat.le_trans sm.dp (by decide))⟩
  unfold frD
  simp only [PyData.canLay0, PyData.canLayAll0, h2, Bool.and_true]
theorem wp_neNil {Q : MV → Wd → Prop} {E : Exn → Wd → Prop} {u : Wd} {m l : Nat} {ts : List Str} (h1 : u[m]? = some (.lst (ts.map MV.str))) (h2 : u[l]? = some (.lst [])) (hx : ∀ t ∈ ts, ∀ c ∈ cs t, c < 0x110000) : wp (cmpM .NotEq (.ref m) (.ref l)) Q E u = Q (.bl (!ts.isEmpty)) u := by
  obtain ⟨s1, s2⟩ := strs_sm ts hx
  have d1 : toD deepest u (.ref m) = some (.list (ts.map PyData.str)) := by
    rw [show deepest = 39 + 1 from rfl]
    unfold toD
    rw [h1]
    dsimp only
    rw [strs_D]
    rfl
  have d2 : toD deepest u (.ref l) = some (.list []) := by
    rw [show deepest = 39 + 1 from rfl]
    unfold toD
    rw [h2]
    rfl
  have sh1 : SeqAt.shaped (.list (ts.map PyData.str)) = true := by
    unfold SeqAt.shaped
    rw [Bool.and_eq_true]
    exact ⟨by simp only [PyData.canLay0]; exact s2, decide_eq_true (Nat.le_trans s1.list.dp (by decide))⟩
  rw [wp_ne d1 d2 sh1 (by decide +kernel)]
  cases ts with
  | nil => rfl
  | cons t r => rfl
theorem wp_rngN {j : Int} {J : Nat} (h : j = (J : Int)) (hJ : J < 2 ^ 62) {R : Itm → Wd → Prop} {E : Exn → Wd → Prop} {u : Wd} : wp (rngM (.int j)) R E u = R (.rng 0 J) u := by
  have h1 := wp_rng (j := j) (R := R) (E := E) (w := u) (by omega) (by omega)
  have h2 : j.toNat = J := by omega
  rw [h1, h2]
end Mir
set_option Elab.async false
set_option linter.all false
set_option maxRecDepth 100000
set_option maxHeartbeats 4000000
namespace K05
open PySem Mir L2 TL
section
variable {n b K : Nat} {w : Wd} {v : MV} {k : Kd} {Q : MV → Wd → Prop} {E : Exn → Wd → Prop}
theorem take1 {m : Int} (hb : Box w b K) (hK : K < 2 ^ 36) (hm : 0 < m) (hm2 : m < 2 ^ 60) (q : ∀ d w', 0 ≤ d → d < m → Fr w w' [b] → Box w' b (K + 1) → Q (.int d) w') : wp (callF T (n + 1) ("_law_take", none) [.ref b, .int m] []) Q NoE w :=
  take_ok (T := T) (f := "_law_take") (p := "_law_box_here") (q := "_law_many") (x := "_law_mixed") (y := "_law_digit") (c1 := 15485917) (c2 := 179424697) (c3 := 104759) (by rfl) (by decide) (by decide) hb hK hm hm2 q
theorem sl (n : Nat) (h : n ≤ 16777216) : n ≤ sizeLine := by rw [sizeLine_eq]; exact h
def fitS (m : Int) : MV → Bool
  | .str s => decide ((s.length : Int) ≤ m)
  | _ => false
theorem fitS_str {m : Int} {s : Str} : fitS m (.str s) = decide ((s.length : Int) ≤ m) := rfl
/-! ### framed -/
def frS (t : Str) : Str := mkS (frm (cs t))
theorem frS_sg {t : Str} (h : StrP okP 9999 t) : StrP okP (t.length + 5) (frS t) := by
  refine ⟨?_, fun c hc => ?_⟩
  · unfold frS
    rw [mk_len, frm_len (by rw [cs_len]; exact h.le), cs_len]
    exact Nat.le_refl _
  · unfold frS at hc
    rw [cs_mk] at hc
    unfold frm at hc
    rw [List.mem_append, List.mem_append, List.mem_singleton] at hc
    rcases hc with (hc | hc) | hc
    · have := isD_iff.mp (List.all_eq_true.mp (num4_dig _) c hc)
      exact okC_iff.mpr (by omega)
    · exact h.al c hc
    · exact okC_iff.mpr (by omega)
theorem cs_nat (m : Nat) : cs (Str.ofString (toString (m : Int))) = numL m := tl_num m
theorem frame_ok {t : Str} (h : t.length ≤ 9999) (q : Q (.str (frS t)) w) : wp (callF T (n + 1) ("_law_frame", none) [.str t] []) Q E w := by
  refine wp_call (d := d__law_frame) rfl (bind1 (p := "_law_text_here")) ?_
  unfold d__law_frame
  have hlog : ((t.length : Int)).natAbs.log2 < 1920 := log04 (by omega)
  have hm : (Str.ofString (toString (t.length : Int))).length = (numL t.length).length := by rw [← cs_len, cs_nat]
  have h4 := numL_le4 h
  simp only [startS, List.map_cons, List.map_nil, List.length_cons, List.length_nil, Nat.reduceAdd, Nat.reduceSub, List.replicate_succ, List.replicate_zero, List.cons_append, List.nil_append, List.append_nil, xw_cons, xw_nil, mEqs, xw_bnd, wp_bnd, wp_ret, xw_ret, wp_var, List.getElem?_cons_zero, List.getElem?_cons_succ, Ds.at, wp_if, opEqs, wp_ite, if_true, fn_eq, List.zip_nil_left, List.zip_cons_cons, Bool.false_eq_true, if_false, setAll, List.set_cons_zero, List.set_cons_succ, wp_lenS, wp_strI hlog, wp_mulS, wp_addS, hm]
  have e1 : (4 - ((numL t.length).length : Int)).toNat = 4 - (numL t.length).length := by omega
  have l0 : ("0" : Str).length = 1 := by decide +kernel
  have l1 : ("." : Str).length = 1 := by decide +kernel
  have ml : (Txt.mul ("0" : Str) (4 - ((numL t.length).length : Int))).length = 4 - (numL t.length).length := by rw [mul_len, l0, e1, Nat.one_mul]
  have ap : ∀ a b : Str, (a ++ b).length = a.length + b.length := fun a b => by rw [← cs_len, cs_append, List.length_append, cs_len, cs_len]
  simp only [ap, ml, hm, l1]
  refine ⟨sl _ (by omega), sl _ (by omega), ⟨by omega, by omega, by rw [l0, e1]; omega⟩, sl _ (by omega), sl _ (by omega), sl _ (by omega), ?_⟩
  have e : Txt.mul ("0" : Str) (4 - ((numL t.length).length : Int)) ++ Str.ofString (toString (t.length : Int)) ++ t ++ "." = frS t := by
    refine str_ext ?_
    rw [cs_append, cs_append, cs_append, cs_mul, cs_nat, e1]
    unfold frS
    rw [cs_mk]
    unfold frm num4
    rw [cs_len]
    have e2 : (List.replicate (4 - (numL t.length).length) (cs "0")).flatten = List.replicate (4 - (numL t.length).length) 48 := by
      have : cs ("0" : Str) = [48] := by decide +kernel
      rw [this]
      generalize 4 - (numL t.length).length = j
      induction j with
      | zero => rfl
      | succ j ih => rw [List.replicate_succ, List.replicate_succ, List.flatten_cons, ih]; rfl
    have e3 : cs ("." : Str) = [46] := by decide +kernel
    rw [e2, e3]
  rw [e]
  exact q
theorem alph_ok (q : ∀ A : Str, StrP okP 94 A → A.length = 94 → Q (.str A) w) : wp (callF T (n + 1) ("_law_alphabet", none) [] []) Q E w := by
  refine wp_call (d := d__law_alphabet) (as := []) rfl rfl ?_
  unfold d__law_alphabet
  simp only [startS, List.map_cons, List.map_nil, List.length_cons, List.length_nil, Nat.reduceAdd, Nat.reduceSub, List.replicate_succ, List.replicate_zero, List.cons_append, List.nil_append, List.append_nil, xw_cons, xw_nil, mEqs, xw_bnd, wp_bnd, wp_ret, xw_ret, wp_var, List.getElem?_cons_zero, List.getElem?_cons_succ, Ds.at, wp_if, opEqs, wp_ite, if_true, fn_eq, List.zip_nil_left, List.zip_cons_cons, Bool.false_eq_true, if_false, setAll, List.set_cons_zero, List.set_cons_succ]
  exact q _ (StrP.of (by decide +kernel)) (by decide +kernel)
theorem is_signs2_ok {m : Int} (hk : kindOf w v = some k) (hl : ∀ s, v = .str s → s.length < 8000000) (q : ∀ w', Fr w w' [] → Q (.bl (isSg v && fitS m v)) w') : wp (callF T (n + 1) ("is_signs", none) [v, .int m] []) Q E w := by
  refine wp_call (d := d_is_signs) (as := [v, .int m]) rfl rfl ?_
  unfold d_is_signs
  have hks : k.is "str" = (match v with | .str _ => true | _ => false) := by
    cases v with
    | ref n =>
      unfold kindOf at hk
      dsimp only at hk
      split at hk <;> first | (cases hk; rfl) | cases hk
    | _ => cases hk <;> rfl
  simp only [startS, List.map_cons, List.map_nil, List.length_cons, List.length_nil, Nat.reduceAdd, Nat.reduceSub, List.replicate_succ, List.replicate_zero, List.cons_append, List.nil_append, List.append_nil, xw_cons, xw_nil, mEqs, xw_bnd, wp_bnd, wp_ret, xw_ret, wp_var, List.getElem?_cons_zero, List.getElem?_cons_succ, Ds.at, wp_if, opEqs, wp_ite, if_true, fn_eq, List.zip_nil_left, List.zip_cons_cons, Bool.false_eq_true, if_false, setAll, List.set_cons_zero, List.set_cons_succ, wp_isi hk (show "str" ∈ ["int", "str", "bool", "list", "tuple", "dict"] by decide), hks]
  cases v with
  | str s =>
    have hl' := hl s rfl
    have e1 : cmpM .IsNot (.int m) .non = Mir.ret (MV.bl (!Mir.isNon (.int m))) := rfl
    simp only [startS, List.map_cons, List.map_nil, List.length_cons, List.length_nil, Nat.reduceAdd, Nat.reduceSub, List.replicate_succ, List.replicate_zero, List.cons_append, List.nil_append, List.append_nil, xw_cons, xw_nil, mEqs, xw_bnd, wp_bnd, wp_ret, xw_ret, wp_var, List.getElem?_cons_zero, List.getElem?_cons_succ, Ds.at, wp_if, opEqs, wp_ite, if_true, fn_eq, List.zip_nil_left, List.zip_cons_cons, Bool.false_eq_true, if_false, setAll, List.set_cons_zero, List.set_cons_succ, e1, wp_lenS, Mir.isNon, Bool.not_false, Bool.not_true]
    refine ⟨sl _ (by omega), ?_⟩
    by_cases hm : m < s.length
    · simp only [decide_eq_true hm, if_true]
      have : decide ((s.length : Int) ≤ m) = false := decide_eq_false (by omega)
      have q' := q w .refl
      rw [fitS_str] at q'
      rw [this, Bool.and_false] at q'
      exact q'
    · simp only [decide_eq_false hm, Bool.false_eq_true, if_false, startS, List.map_cons, List.map_nil, List.length_cons, List.length_nil, Nat.reduceAdd, Nat.reduceSub, List.replicate_succ, List.replicate_zero, List.cons_append, List.nil_append, List.append_nil, xw_cons, xw_nil, mEqs, xw_bnd, wp_bnd, wp_ret, xw_ret, wp_var, List.getElem?_cons_zero, List.getElem?_cons_succ, Ds.at, wp_if, opEqs, wp_ite, if_true, fn_eq, List.zip_nil_left, List.zip_cons_cons, Bool.false_eq_true, if_false, setAll, List.set_cons_zero, List.set_cons_succ, wp_itmS]
      refine wp_compStr (fun c => some (.bl (okC c))) (sl _ (by omega) |> Nat.lt_of_lt_of_le (by omega) |> fun h => h) (fun x hx c R r => ?_) ?_
      · simp only [startS, List.map_cons, List.map_nil, List.length_cons, List.length_nil, Nat.reduceAdd, Nat.reduceSub, List.replicate_succ, List.replicate_zero, List.cons_append, List.nil_append, List.append_nil, xw_cons, xw_nil, mEqs, xw_bnd, wp_bnd, wp_ret, xw_ret, wp_var, List.getElem?_cons_zero, List.getElem?_cons_succ, Ds.at, wp_if, opEqs, wp_ite, if_true, fn_eq, List.zip_nil_left, List.zip_cons_cons, Bool.false_eq_true, if_false, setAll, List.set_cons_zero, List.set_cons_succ, chnM]
        have c1 : cmpM .LtE (.str " ") (.str ⟨#[x]⟩) = ret (.bl (!strLt ⟨#[x]⟩ " ")) := rfl
        have c2 : cmpM .LtE (.str ⟨#[x]⟩) (.str "~") = ret (.bl (!strLt "~" ⟨#[x]⟩)) := rfl
        unfold okC at r
        simp only [c1, wp_ret]
        cases hc : strLt ⟨#[x]⟩ " " with
        | true =>
          rw [hc] at r
          exact r
        | false =>
          rw [hc] at r
          simp only [Bool.not_false, Bool.not_true, wp_bnd, wp_ret, c2]
          exact r
      · have e2 : (cs s).filterMap (fun c => some (MV.bl (okC c))) = ((cs s).map okC).map MV.bl := by rw [filterMap_some, List.map_map]; rfl
        rw [e2]
        rw [wp_allB at_push]
        have e3 : ((cs s).map okC).all id = isSg (.str s) := by
          unfold isSg
          rw [List.all_map]
          rfl
        have q' := q _ (Fr.push (c := .lst (((cs s).map okC).map MV.bl)))
        have : decide ((s.length : Int) ≤ m) = true := decide_eq_true (by omega)
        rw [fitS_str] at q'
        rw [this, Bool.and_true] at q'
        rw [e3]
        exact q'
  | _ => exact q w .refl
theorem eX : T.exf.lookup ("InvalidText" : Str) = some [("given" : Str)] := by rfl
theorem eS : T.exf.lookup ("InvalidSigns" : Str) = some [("given" : Str)] := by rfl
theorem exf_of {C : Str} {fs : List Str} {fn : Fid → List MV → List (Str × MV) → M MV} (h : T.exf.lookup C = some fs) : (T.calls fn).exf C = fs := by
  show (T.exf.lookup C).getD [] = _
  rw [h]; rfl
theorem framed_any (hk : kindOf w v = some k) (hl : ∀ s, v = .str s → s.length < 8000000) (q : ∀ s w', v = .str s → StrP okP 9999 s → Fr w w' [] → Q (.str (frS s)) w') (e : ∀ w', (isSg v && fitS 9999 v) = false → Fr w w' [] → E ⟨"InvalidText", [("given", v)]⟩ w') :
    wp (callF T (n + 2) ("framed", none) [v] []) Q E w := by
  refine wp_call (d := d_framed) rfl (bind1 (p := "text")) ?_
  unfold d_framed
  simp only [startS, List.map_cons, List.map_nil, List.length_cons, List.length_nil, Nat.reduceAdd, Nat.reduceSub, List.replicate_succ, List.replicate_zero, List.cons_append, List.nil_append, List.append_nil, xw_cons, xw_nil, mEqs, xw_bnd, wp_bnd, wp_ret, xw_ret, wp_var, List.getElem?_cons_zero, List.getElem?_cons_succ, Ds.at, wp_if, opEqs, wp_ite, if_true, fn_eq, List.zip_nil_left, List.zip_cons_cons, Bool.false_eq_true, if_false, setAll, List.set_cons_zero, List.set_cons_succ]
  refine is_signs2_ok hk hl fun w1 f1 => ?_
  cases hs : (isSg v && fitS 9999 v) with
  | false =>
    simp only [opEqs, wp_ret, wp_bnd, Bool.not_false, if_true]
    simp only [startS, List.map_cons, List.map_nil, List.length_cons, List.length_nil, Nat.reduceAdd, Nat.reduceSub, List.replicate_succ, List.replicate_zero, List.cons_append, List.nil_append, List.append_nil, xw_cons, xw_nil, mEqs, xw_bnd, wp_bnd, wp_ret, xw_ret, wp_var, List.getElem?_cons_zero, List.getElem?_cons_succ, Ds.at, wp_if, opEqs, wp_ite, if_true, fn_eq, List.zip_nil_left, List.zip_cons_cons, Bool.false_eq_true, if_false, setAll, List.set_cons_zero, List.set_cons_succ, exe_raise, exf_of eX]
    exact e w1 hs f1
  | true =>
    simp only [opEqs, wp_ret, wp_bnd, Bool.not_true, Bool.false_eq_true, if_false]
    cases v with
    | str s =>
      obtain ⟨h1, h2⟩ := Bool.and_eq_true_iff.mp hs
      have h2 := of_decide_eq_true h2
      have h2 : s.length ≤ 9999 := by omega
      have hsp : StrP okP 9999 s := ⟨h2, fun c hc => List.all_eq_true.mp (show (cs s).all okC = true from h1) c hc⟩
      have l0 : (Str.empty : Str).length = 0 := rfl
      have l1 : ("." : Str).length = 1 := by decide +kernel
      have ap : ∀ a b : Str, (a ++ b).length = a.length + b.length := fun a b => by rw [← cs_len, cs_append, List.length_append, cs_len, cs_len]
      have z4 := size04 (i := (s.length : Int)) (by omega) (by omega)
      simp only [startS, List.map_cons, List.map_nil, List.length_cons, List.length_nil, Nat.reduceAdd, Nat.reduceSub, List.replicate_succ, List.replicate_zero, List.cons_append, List.nil_append, List.append_nil, xw_cons, xw_nil, mEqs, xw_bnd, wp_bnd, wp_ret, xw_ret, wp_var, List.getElem?_cons_zero, List.getElem?_cons_succ, Ds.at, wp_if, opEqs, wp_ite, if_true, fn_eq, List.zip_nil_left, List.zip_cons_cons, Bool.false_eq_true, if_false, setAll, List.set_cons_zero, List.set_cons_succ, mEqs2, wp_lenS, wp_fmt4 (show (0 : Int) ≤ s.length by omega) (show (s.length : Int) < 10000 by omega), wp_joinStep, wp_fmtS, ap, l0, l1]
      refine ⟨sl _ (by omega), sl _ (by omega), sl _ (by omega), sl _ (by omega), sl _ (by omega), ?_⟩
      have e : Str.empty ++ zero4 (Str.ofString (toString (s.length : Int))) ++ s ++ "." = frS s := by
        refine str_ext ?_
        rw [cs_append, cs_append, cs_append]
        unfold frS
        rw [cs_mk]
        have e0 : cs Str.empty = [] := rfl
        have e3 : cs ("." : Str) = [46] := by decide +kernel
        have e4 : cs (zero4 (Str.ofString (toString (s.length : Int)))) = num4 (cs s).length := by
          unfold zero4 num4
          rw [cs_len]
          show List.replicate (4 - (Str.ofString (toString (s.length : Int))).length) 48 ++ cs (Str.ofString (toString (s.length : Int))) = _
          rw [← cs_len, cs_nat]
        rw [e0, e3, e4]
        unfold frm
        rw [List.nil_append]
      rw [e]
      exact q s w1 rfl hsp f1
    | _ => cases hs
theorem framed_ok {t : Str} (h : StrP okP 9999 t) (q : ∀ w', Fr w w' [] → Q (.str (frS t)) w') : wp (callF T (n + 2) ("framed", none) [.str t] []) Q E w := by
  refine framed_any (k := .str) rfl (fun s hs => by cases hs; have := h.le; omega) (fun s w' hs _ f => by cases hs; exact q w' f) fun w' hf _ => ?_
  have h1 := isSg_of h
  have h2 := h.le
  rw [h1] at hf
  rw [fitS_str] at hf
  rw [decide_eq_true (show (t.length : Int) ≤ 9999 by omega)] at hf
  cases hf
end
end K05
set_option Elab.async false
set_option linter.all false
set_option maxRecDepth 100000
set_option maxHeartbeats 4000000
namespace K05
open PySem Mir L2 TL
def stv (ts : List (List Nat)) : List MV := ts.map fun t => MV.str (mkS t)
def atV : Option (List Nat) → MV
  | none => .non
  | some t => .str (mkS t)
theorem head_cs (s : Str) (a : Nat) : cs (cutS s (some (a : Int)) (some ((a : Int) + 4))) = ((cs s).drop a).take 4 := by
  have e : (a : Int) + 4 = ((a + 4 : Nat) : Int) := by push_cast; rfl
  rw [cs_cut, e, cutL_nat, Nat.add_sub_cancel_left]
theorem dot_iff (s : Str) (e : Nat) : cutS s (some (e : Int)) (some ((e : Int) + 1)) = ("." : Str) ↔ (cs s)[e]? = some 46 := by
  have e1 : (e : Int) + 1 = ((e + 1 : Nat) : Int) := by push_cast; rfl
  have e2 : cs (cutS s (some (e : Int)) (some ((e : Int) + 1))) = ((cs s).drop e).take 1 := by rw [cs_cut, e1, cutL_nat, Nat.add_sub_cancel_left]
  have e3 : cs ("." : Str) = [46] := by decide +kernel
  constructor
  · intro h
    rw [h, e3] at e2
    have : (((cs s).drop e).take 1)[0]? = some 46 := by rw [← e2]; rfl
    rw [List.getElem?_take_of_lt (by omega), List.getElem?_drop] at this
    exact this
  · intro h
    refine str_ext ?_
    rw [e2, e3]
    obtain ⟨hl, hv⟩ := List.getElem?_eq_some_iff.mp h
    rw [List.drop_eq_getElem_cons hl, hv]
    rfl
section
variable {n b K : Nat} {w : Wd} {v : MV} {k : Kd} {Q : MV → Wd → Prop} {E : Exn → Wd → Prop}
theorem frame_at_ok {s : Str} {a : Nat} (hl : s.length < 8000000) (q : ∀ w', Fr w w' [] → Q (atV (frAt (cs s) a)) w') : wp (callF T (n + 1) ("frame_at", none) [.str s, .int (a : Int)] []) Q E w := by
  refine wp_call (d := d_frame_at) rfl (bind2 (p := "signs") (q := "at") (by decide)) ?_
  unfold d_frame_at
  have hc := head_cs s a
  generalize hH : cutS s (some (a : Int)) (some ((a : Int) + 4)) = H at hc
  have hlen : H.length = (((cs s).drop a).take 4).length := by rw [← cs_len, hc]
  have h4 : H.length ≤ 4 := by rw [hlen, List.length_take]; omega
  simp only [startS, List.map_cons, List.map_nil, List.length_cons, List.length_nil, Nat.reduceAdd, Nat.reduceSub, List.replicate_succ, List.replicate_zero, List.cons_append, List.nil_append, List.append_nil, xw_cons, xw_nil, mEqs, xw_bnd, wp_bnd, wp_ret, xw_ret, wp_var, List.getElem?_cons_zero, List.getElem?_cons_succ, Ds.at, wp_if, opEqs, wp_ite, if_true, fn_eq, List.zip_nil_left, List.zip_cons_cons, Bool.false_eq_true, if_false, setAll, List.set_cons_zero, List.set_cons_succ, part_i, wp_slcS, hH, wp_lenS]
  refine ⟨sl _ (by omega), sl _ (by omega), ?_⟩
  by_cases h : (H.length : Int) < 4
  · simp only [decide_eq_true h, if_true]
    have : frAt (cs s) a = none := by
      unfold frAt
      rw [if_pos (.inl (by rw [← hlen]; omega))]
    have q' := q w .refl
    rw [this] at q'
    exact q'
  · simp only [decide_eq_false h, Bool.false_eq_true, if_false, startS, List.map_cons, List.map_nil, List.length_cons, List.length_nil, Nat.reduceAdd, Nat.reduceSub, List.replicate_succ, List.replicate_zero, List.cons_append, List.nil_append, List.append_nil, xw_cons, xw_nil, mEqs, xw_bnd, wp_bnd, wp_ret, xw_ret, wp_var, List.getElem?_cons_zero, List.getElem?_cons_succ, Ds.at, wp_if, opEqs, wp_ite, if_true, fn_eq, List.zip_nil_left, List.zip_cons_cons, Bool.false_eq_true, if_false, setAll, List.set_cons_zero, List.set_cons_succ, wp_itmS]
    refine wp_compStr (fun c => some (.bl (isD c))) (Nat.lt_of_le_of_lt h4 (by rw [sizeLine_eq]; decide)) (fun x hx c R r => ?_) ?_
    · simp only [startS, List.map_cons, List.map_nil, List.length_cons, List.length_nil, Nat.reduceAdd, Nat.reduceSub, List.replicate_succ, List.replicate_zero, List.cons_append, List.nil_append, List.append_nil, xw_cons, xw_nil, mEqs, xw_bnd, wp_bnd, wp_ret, xw_ret, wp_var, List.getElem?_cons_zero, List.getElem?_cons_succ, Ds.at, wp_if, opEqs, wp_ite, if_true, fn_eq, List.zip_nil_left, List.zip_cons_cons, Bool.false_eq_true, if_false, setAll, List.set_cons_zero, List.set_cons_succ, wp_in1]
      exact r
    · have e2 : (cs H).filterMap (fun c => some (MV.bl (isD c))) = ((cs H).map isD).map MV.bl := by rw [filterMap_some, List.map_map]; rfl
      rw [e2, wp_allB at_push]
      have e3 : ((cs H).map isD).all id = (cs H).all isD := by rw [List.all_map]; rfl
      rw [e3]
      have fp : Fr w (w ++ [Cell.lst (((cs H).map isD).map MV.bl)]) [] := .push
      generalize (w ++ [Cell.lst (((cs H).map isD).map MV.bl)]) = w1 at fp
      cases hd : (cs H).all isD with
      | false =>
        simp only [startS, List.map_cons, List.map_nil, List.length_cons, List.length_nil, Nat.reduceAdd, Nat.reduceSub, List.replicate_succ, List.replicate_zero, List.cons_append, List.nil_append, List.append_nil, xw_cons, xw_nil, mEqs, xw_bnd, wp_bnd, wp_ret, xw_ret, wp_var, List.getElem?_cons_zero, List.getElem?_cons_succ, Ds.at, wp_if, opEqs, wp_ite, if_true, fn_eq, List.zip_nil_left, List.zip_cons_cons, Bool.false_eq_true, if_false, setAll, List.set_cons_zero, List.set_cons_succ, Bool.not_false]
        have : frAt (cs s) a = none := by
          unfold frAt
          rw [if_pos (.inr (by rw [← hc]; exact hd))]
        have q' := q w1 fp
        rw [this] at q'
        exact q'
      | true =>
        simp only [startS, List.map_cons, List.map_nil, List.length_cons, List.length_nil, Nat.reduceAdd, Nat.reduceSub, List.replicate_succ, List.replicate_zero, List.cons_append, List.nil_append, List.append_nil, xw_cons, xw_nil, mEqs, xw_bnd, wp_bnd, wp_ret, xw_ret, wp_var, List.getElem?_cons_zero, List.getElem?_cons_succ, Ds.at, wp_if, opEqs, wp_ite, if_true, fn_eq, List.zip_nil_left, List.zip_cons_cons, Bool.false_eq_true, if_false, setAll, List.set_cons_zero, List.set_cons_succ, Bool.not_true]
        have hne : cs H ≠ [] := fun z => by
          have : H.length = 0 := by rw [← cs_len, z]; rfl
          omega
        rw [wp_intS hd hne (by omega)]
        simp only [startS, List.map_cons, List.map_nil, List.length_cons, List.length_nil, Nat.reduceAdd, Nat.reduceSub, List.replicate_succ, List.replicate_zero, List.cons_append, List.nil_append, List.append_nil, xw_cons, xw_nil, mEqs, xw_bnd, wp_bnd, wp_ret, xw_ret, wp_var, List.getElem?_cons_zero, List.getElem?_cons_succ, Ds.at, wp_if, opEqs, wp_ite, if_true, fn_eq, List.zip_nil_left, List.zip_cons_cons, Bool.false_eq_true, if_false, setAll, List.set_cons_zero, List.set_cons_succ]
        have ei : (a : Int) + 4 + (val4 (cs H) : Nat) = ((a + 4 + val4 (cs H) : Nat) : Int) := by push_cast; rfl
        simp only [ei, startS, List.map_cons, List.map_nil, List.length_cons, List.length_nil, Nat.reduceAdd, Nat.reduceSub, List.replicate_succ, List.replicate_zero, List.cons_append, List.nil_append, List.append_nil, xw_cons, xw_nil, mEqs, xw_bnd, wp_bnd, wp_ret, xw_ret, wp_var, List.getElem?_cons_zero, List.getElem?_cons_succ, Ds.at, wp_if, opEqs, wp_ite, if_true, fn_eq, List.zip_nil_left, List.zip_cons_cons, Bool.false_eq_true, if_false, setAll, List.set_cons_zero, List.set_cons_succ, wp_slcS, part_i]
        refine ⟨sl _ (by omega), ?_⟩
        have eq1 : ∀ {x y : Str} {R : MV → Wd → Prop} {E' : Exn → Wd → Prop} {u : Wd}, wp (cmpM .Eq (.str x) (.str y)) R E' u = R (.bl (decide (x = y))) u := fun {x y R E' u} => rfl
        rw [eq1]
        by_cases hdot : (cs s)[a + 4 + val4 (cs H)]? = some 46
        · rw [decide_eq_true ((dot_iff s _).mpr hdot)]
          simp only [startS, List.map_cons, List.map_nil, List.length_cons, List.length_nil, Nat.reduceAdd, Nat.reduceSub, List.replicate_succ, List.replicate_zero, List.cons_append, List.nil_append, List.append_nil, xw_cons, xw_nil, mEqs, xw_bnd, wp_bnd, wp_ret, xw_ret, wp_var, List.getElem?_cons_zero, List.getElem?_cons_succ, Ds.at, wp_if, opEqs, wp_ite, if_true, fn_eq, List.zip_nil_left, List.zip_cons_cons, Bool.false_eq_true, if_false, setAll, List.set_cons_zero, List.set_cons_succ, wp_slcS, part_i]
          refine ⟨sl _ (by omega), ?_⟩
          have e4 : (a : Int) + 4 = ((a + 4 : Nat) : Int) := by push_cast; rfl
          have : frAt (cs s) a = some (cs (cutS s (some ((a : Int) + 4)) (some ((a + 4 + val4 (cs H) : Nat) : Int)))) := by
            unfold frAt
            rw [if_neg (by rw [← hc, hd, cs_len]; simp; omega), ← hc, if_pos hdot, cs_cut, e4, cutL_nat, Nat.add_sub_cancel_left]
          have q' := q w1 fp
          rw [this] at q'
          unfold atV at q'
          dsimp only at q'
          rw [mk_cs] at q'
          exact q'
        · rw [decide_eq_false fun z => hdot ((dot_iff s _).mp z)]
          simp only [startS, List.map_cons, List.map_nil, List.length_cons, List.length_nil, Nat.reduceAdd, Nat.reduceSub, List.replicate_succ, List.replicate_zero, List.cons_append, List.nil_append, List.append_nil, xw_cons, xw_nil, mEqs, xw_bnd, wp_bnd, wp_ret, xw_ret, wp_var, List.getElem?_cons_zero, List.getElem?_cons_succ, Ds.at, wp_if, opEqs, wp_ite, if_true, fn_eq, List.zip_nil_left, List.zip_cons_cons, Bool.false_eq_true, if_false, setAll, List.set_cons_zero, List.set_cons_succ]
          have : frAt (cs s) a = none := by
            unfold frAt
            rw [if_neg (by rw [← hc, hd, cs_len]; simp; omega), ← hc, if_neg hdot]
          have q' := q w1 fp
          rw [this] at q'
          exact q'
theorem frames_any (hk : kindOf w v = some k) (hl : ∀ s, v = .str s → s.length < 8000000) (q : ∀ s r w', v = .str s → isSg v = true → w.length ≤ r → Fr w w' [] → w'[r]? = some (.lst (stv (rd (cs s)).1)) → Q (.tup [.ref r, .int ((rd (cs s)).2 : Nat)]) w') (e : ∀ w', isSg v = false → Fr w w' [] → E ⟨"InvalidSigns", [("given", v)]⟩ w') :
    wp (callF T (n + 2) ("frames_in", none) [v] []) Q E w := by
  refine wp_call (d := d_frames_in) rfl (bind1 (p := "signs")) ?_
  unfold d_frames_in
  simp only [startS, List.map_cons, List.map_nil, List.length_cons, List.length_nil, Nat.reduceAdd, Nat.reduceSub, List.replicate_succ, List.replicate_zero, List.cons_append, List.nil_append, List.append_nil, xw_cons, xw_nil, mEqs, xw_bnd, wp_bnd, wp_ret, xw_ret, wp_var, List.getElem?_cons_zero, List.getElem?_cons_succ, Ds.at, wp_if, opEqs, wp_ite, if_true, fn_eq, List.zip_nil_left, List.zip_cons_cons, Bool.false_eq_true, if_false, setAll, List.set_cons_zero, List.set_cons_succ]
  refine is_signs_ok (T := T) rfl hk (fun s hs => Nat.lt_of_lt_of_le (hl s hs) (sl _ (by decide))) fun w1 f1 => ?_
  cases hs : isSg v with
  | false =>
    simp only [opEqs, wp_ret, wp_bnd, Bool.not_false, if_true]
    simp only [startS, List.map_cons, List.map_nil, List.length_cons, List.length_nil, Nat.reduceAdd, Nat.reduceSub, List.replicate_succ, List.replicate_zero, List.cons_append, List.nil_append, List.append_nil, xw_cons, xw_nil, mEqs, xw_bnd, wp_bnd, wp_ret, xw_ret, wp_var, List.getElem?_cons_zero, List.getElem?_cons_succ, Ds.at, wp_if, opEqs, wp_ite, if_true, fn_eq, List.zip_nil_left, List.zip_cons_cons, Bool.false_eq_true, if_false, setAll, List.set_cons_zero, List.set_cons_succ, exe_raise, exf_of eS]
    exact e w1 hs f1
  | true =>
    simp only [opEqs, wp_ret, wp_bnd, Bool.not_true, Bool.false_eq_true, if_false]
    cases v with
    | str s =>
      have hl' := hl s rfl
      simp only [startS, List.map_cons, List.map_nil, List.length_cons, List.length_nil, Nat.reduceAdd, Nat.reduceSub, List.replicate_succ, List.replicate_zero, List.cons_append, List.nil_append, List.append_nil, xw_cons, xw_nil, mEqs, xw_bnd, wp_bnd, wp_ret, xw_ret, wp_var, List.getElem?_cons_zero, List.getElem?_cons_succ, Ds.at, wp_if, opEqs, wp_ite, if_true, fn_eq, List.zip_nil_left, List.zip_cons_cons, Bool.false_eq_true, if_false, setAll, List.set_cons_zero, List.set_cons_succ, sl 2 (by decide), sl 0 (by decide), wp_alloc, mEqs2]
      have h1 := f1.le
      refine wp_wlw (fun k S u => ∃ (fs : List (List Nat)) (a : Nat) (x : Option MV), S = [some (.str s), some (.ref w1.length), some (.int (a : Int)), x] ∧ Mir.Rd (cs s) fs a ∧ 5 * fs.length ≤ a ∧ u[w1.length]? = some (.lst (stv fs)) ∧ Fr w u [] ∧ s.length ≤ k + a) ?_ whileN (s.length) _ _ (by unfold whileN; omega)
        ⟨[], 0, _, rfl, Mir.Rd.start _, by simp, at_push, f1.trans .push (fun _ _ h => h), by omega⟩
      rintro k S u ⟨fs, a, x, rfl, hr, h5, hu, fu, hk⟩
      simp only [startS, List.map_cons, List.map_nil, List.length_cons, List.length_nil, Nat.reduceAdd, Nat.reduceSub, List.replicate_succ, List.replicate_zero, List.cons_append, List.nil_append, List.append_nil, xw_cons, xw_nil, mEqs, xw_bnd, wp_bnd, wp_ret, xw_ret, wp_var, List.getElem?_cons_zero, List.getElem?_cons_succ, Ds.at, wp_if, opEqs, wp_ite, if_true, fn_eq, List.zip_nil_left, List.zip_cons_cons, Bool.false_eq_true, if_false, setAll, List.set_cons_zero, List.set_cons_succ]
      have ha : a ≤ s.length := by have := hr.1; rw [cs_len] at this; exact this
      refine frame_at_ok hl' fun u1 g1 => ?_
      have hu1 := g1.at hu (by simp)
      have fu1 := fu.trans g1 (fun _ _ h => h)
      cases hf : frAt (cs s) a with
      | none =>
        rw [if_pos (show Mir.isNon (atV none) = true from rfl)]
        try simp only [startS, List.map_cons, List.map_nil, List.length_cons, List.length_nil, Nat.reduceAdd, Nat.reduceSub, List.replicate_succ, List.replicate_zero, List.cons_append, List.nil_append, List.append_nil, xw_cons, xw_nil, mEqs, xw_bnd, wp_bnd, wp_ret, xw_ret, wp_var, List.getElem?_cons_zero, List.getElem?_cons_succ, Ds.at, wp_if, opEqs, wp_ite, if_true, fn_eq, List.zip_nil_left, List.zip_cons_cons, Bool.false_eq_true, if_false, setAll, List.set_cons_zero, List.set_cons_succ, sl 2 (by decide)]
        have hst := hr.stop hf
        have q' := q s w1.length u1 rfl hs h1 fu1 (by rw [hst]; exact hu1)
        rw [hst] at q'
        exact q'
      | some t =>
        have hfl := frAt_len hf
        rw [cs_len] at hfl
        rw [if_neg (show ¬ Mir.isNon (atV (some t)) = true from Bool.false_ne_true)]
        refine ⟨k - 1, by omega, ?_⟩
        unfold atV
        try simp only [startS, List.map_cons, List.map_nil, List.length_cons, List.length_nil, Nat.reduceAdd, Nat.reduceSub, List.replicate_succ, List.replicate_zero, List.cons_append, List.nil_append, List.append_nil, xw_cons, xw_nil, mEqs, xw_bnd, wp_bnd, wp_ret, xw_ret, wp_var, List.getElem?_cons_zero, List.getElem?_cons_succ, Ds.at, wp_if, opEqs, wp_ite, if_true, fn_eq, List.zip_nil_left, List.zip_cons_cons, Bool.false_eq_true, if_false, setAll, List.set_cons_zero, List.set_cons_succ]
        rw [wp_appC hu1, wp_app hu1 (by unfold stv; rw [List.length_map, sizeLine_eq]; omega)]
        rw [xw_augI (z := (a : Int)) rfl]
        simp only [startS, List.map_cons, List.map_nil, List.length_cons, List.length_nil, Nat.reduceAdd, Nat.reduceSub, List.replicate_succ, List.replicate_zero, List.cons_append, List.nil_append, List.append_nil, xw_cons, xw_nil, mEqs, xw_bnd, wp_bnd, wp_ret, xw_ret, wp_var, List.getElem?_cons_zero, List.getElem?_cons_succ, Ds.at, wp_if, opEqs, wp_ite, if_true, fn_eq, List.zip_nil_left, List.zip_cons_cons, Bool.false_eq_true, if_false, setAll, List.set_cons_zero, List.set_cons_succ, wp_lenS]
        refine ⟨sl _ (by rw [mk_len]; omega), fs ++ [t], a + 5 + t.length, some (.str (mkS t)), ?_, hr.step hf, by rw [List.length_append, List.length_singleton]; omega, ?_, ?_, by omega⟩
        · have : (a : Int) + (4 + ((mkS t).length : Int) + 1) = ((a + 5 + t.length : Nat) : Int) := by rw [mk_len]; push_cast; omega
          rw [this]
        · rw [List.getElem?_set_self (lt_of_at hu1)]
          unfold stv
          rw [List.map_append]
          rfl
        · refine fu1.trans .set fun i hi hm => ?_
          rw [List.mem_singleton] at hm
          omega
    | _ => cases hs
theorem frames_ok {s : Str} (h : StrP okP 7000000 s) (q : ∀ r w', w.length ≤ r → Fr w w' [] → w'[r]? = some (.lst (stv (rd (cs s)).1)) → Q (.tup [.ref r, .int ((rd (cs s)).2 : Nat)]) w') : wp (callF T (n + 2) ("frames_in", none) [.str s] []) Q E w := by
  have hsg := isSg_of h
  refine frames_any (k := .str) rfl (fun z hz => by cases hz; have := h.le; omega) (fun z r w' hz _ h1 f hr => by cases hz; exact q r w' h1 f hr) fun w' hf _ => ?_
  rw [hsg] at hf
  cases hf
end
end K05
set_option Elab.async false
set_option linter.all false
set_option maxRecDepth 100000
set_option maxHeartbeats 4000000
namespace K05
open PySem Mir L2 TL
def rdB : List Sx := [.asg (.var 4) (.slc (.var 0) (some (.var 3)) (some (.bin .Add (.var 3) (.lit (.int 4))))),
    .ife (.or (.cmp .Lt (.bi .len [.var 4]) (.lit (.int 4))) (.cmp .NotEq (.comp (.var 6) 6 false (.var 4) (some (.cmp .NotIn (.var 6) (.lit (.str "0123456789"))))) (.lst []))) [.ret (some (.tup [.var 2, .var 3]))] [],
    .asg (.var 5) (.bin .Add (.bin .Add (.var 3) (.lit (.int 4))) (.bi .int [.var 4])),
    .ife (.cmp .NotEq (.slc (.var 0) (some (.var 5)) (some (.bin .Add (.var 5) (.lit (.int 1))))) (.lit (.str "."))) [.ret (some (.tup [.var 2, .var 3]))] [],
    .expr (.bm .append (.var 2) [.slc (.var 0) (some (.bin .Add (.var 3) (.lit (.int 4)))) (some (.var 5))]),
    .asg (.var 3) (.bin .Add (.var 5) (.lit (.int 1)))]
section
variable {n b K : Nat} {w : Wd} {v : MV} {k : Kd} {Q : MV → Wd → Prop} {E : Exn → Wd → Prop}
theorem read_ok {s : Str} (h : StrP okP 7000000 s) (q : ∀ r w', w.length ≤ r → Fr w w' [] → w'[r]? = some (.lst (stv (rd (cs s)).1)) → Q (.tup [.ref r, .int ((rd (cs s)).2 : Nat)]) w') : wp (callF T (n + 1) ("_law_read", none) [.str s] []) Q E w := by
  refine wp_call (d := d__law_read) rfl (bind1 (p := "_law_signs")) ?_
  have hle := h.le
  show xw (exeL (T.calls (callF T n)) none [.asg (.tup [2, 3]) (.tup [.lst [], .lit (.int 0)]), .forE 1 true (.bin .Add (.bin .FloorDiv (.bi .len [.var 0]) (.lit (.int 5))) (.lit (.int 1))) rdB, .ret (some (.tup [.var 2, .var 3]))] (startS ["_law_signs", "_law_turn", "_law_found", "_law_good", "_law_head", "_law_end", "_law_sign"] [.str s])) _ w
  obtain ⟨J, hJ⟩ : ∃ J : Nat, J = s.length / 5 + 1 := ⟨_, rfl⟩
  have hj2 : s.length < 5 * J := by omega
  obtain ⟨j5, hj5⟩ : ∃ j : Int, j = (s.length : Int) / 5 := ⟨_, rfl⟩
  obtain ⟨j, hj⟩ : ∃ j : Int, j = j5 + 1 := ⟨_, rfl⟩
  have hjJ : j = (J : Int) := by omega
  have hrg : ∀ (R : Itm → Wd → Prop) (E : Exn → Wd → Prop) (u : Wd), wp (rngM (.int j)) R E u = R (.rng 0 J) u := fun R E u => wp_rngN hjJ (by omega)
  have f5 : ∀ (R : MV → Wd → Prop) (E : Exn → Wd → Prop) (u : Wd), wp (binM .FloorDiv (.int s.length) (.int 5)) R E u = R (.int j5) u := fun R E u => by
    rw [wp_fdiv, hj5]
    exact propext ⟨fun h => h.2, fun h => ⟨⟨by decide, by decide⟩, h⟩⟩
  have f1 : binM .Add (.int j5) (.int 1) = Mir.ret (.int j) := by rw [hj]; rfl
  rw [xw_cons]
  simp only [startS, List.map_cons, List.map_nil, List.length_cons, List.length_nil, Nat.reduceAdd, Nat.reduceSub, List.replicate_succ, List.replicate_zero, List.cons_append, List.nil_append, mEqs, xw_bnd, wp_bnd, wp_ret, xw_ret, wp_if, opEqs, if_true, setAll, List.set_cons_zero, List.set_cons_succ, sl 2 (by decide), sl 0 (by decide), wp_alloc, Ds.at]
  rw [xw_cons, exe_for, xw_bnd, wp_bnd, den_bin, wp_bnd, den_bin, wp_bnd, den_bi, wp_bnd, denL_cons, wp_bnd, wp_var]
  simp only [List.getElem?_cons_zero, denL_nil, wp_bnd, wp_ret, wp_lenS]
  refine ⟨sl _ (by omega), ?_⟩
  rw [den_lit, wp_ret, f5, den_lit, wp_ret, f1, wp_ret, if_pos trivial, hrg]
  refine wp_for (fun i S u => ∃ (fs : List (List Nat)) (a : Nat) (x1 x4 x5 x6 : Option MV), S = [some (.str s), x1, some (.ref w.length), some (.int (a : Int)), x4, x5, x6] ∧ Mir.Rd (cs s) fs a ∧ 5 * fs.length ≤ a ∧ 5 * i ≤ a ∧ u[w.length]? = some (.lst (stv fs)) ∧ Fr w u []) _ 0 _ _ (Nat.zero_add _) ⟨[], 0, none, none, none, none, rfl, Mir.Rd.start _, by simp, by simp, at_push, .push⟩ (fun i S u hi ⟨fs, a, x1, x4, x5, x6, hS, hr, h5, hi5, hu, fu⟩ => ⟨.int (0 + i), ?_, ?_⟩) (fun S u ⟨fs, a, x1, x4, x5, x6, hS, hr, h5, hi5, hu, fu⟩ => ?_)
  · show (if i < _ then some (MV.int (0 + i)) else none) = _
    exact if_pos hi
  · subst hS
    have ha : a ≤ s.length := by have := hr.1; rw [cs_len] at this; exact this
    have hc := head_cs s a
    generalize hH : cutS s (some (a : Int)) (some ((a : Int) + 4)) = H at hc
    have hlen : H.length = (((cs s).drop a).take 4).length := by rw [← cs_len, hc]
    have h4 : H.length ≤ 4 := by rw [hlen, List.length_take]; omega
    have stop : ∀ {u' : Wd}, Fr u u' [] → frAt (cs s) a = none → Q (.tup [.ref w.length, .int (a : Int)]) u' := fun {u'} f hf => by
      have hst := hr.stop hf
      have q' := q w.length u' (Nat.le_refl _) (fu.trans f (fun _ _ h => h)) (by rw [hst]; exact f.at hu (by simp))
      rw [hst] at q'
      exact q'
    unfold rdB
    simp only [startS, List.map_cons, List.map_nil, List.length_cons, List.length_nil, Nat.reduceAdd, Nat.reduceSub, List.replicate_succ, List.replicate_zero, List.cons_append, List.nil_append, List.append_nil, xw_cons, xw_nil, mEqs, xw_bnd, wp_bnd, wp_ret, xw_ret, wp_var, List.getElem?_cons_zero, List.getElem?_cons_succ, Ds.at, wp_if, opEqs, wp_ite, if_true, fn_eq, List.zip_nil_left, List.zip_cons_cons, Bool.false_eq_true, if_false, setAll, List.set_cons_zero, List.set_cons_succ, part_i, wp_slcS, hH, wp_lenS, sl 2 (by decide), sl 0 (by decide)]
    refine ⟨sl _ (by omega), sl _ (by omega), ?_⟩
    by_cases hl : (H.length : Int) < 4
    · simp only [decide_eq_true hl, if_true]
      exact stop .refl (by unfold frAt; rw [if_pos (.inl (by rw [← hlen]; omega))])
    · simp only [decide_eq_false hl, Bool.false_eq_true, if_false, startS, List.map_cons, List.map_nil, List.length_cons, List.length_nil, Nat.reduceAdd, Nat.reduceSub, List.replicate_succ, List.replicate_zero, List.cons_append, List.nil_append, List.append_nil, xw_cons, xw_nil, mEqs, xw_bnd, wp_bnd, wp_ret, xw_ret, wp_var, List.getElem?_cons_zero, List.getElem?_cons_succ, Ds.at, wp_if, opEqs, wp_ite, if_true, fn_eq, List.zip_nil_left, List.zip_cons_cons, Bool.false_eq_true, if_false, setAll, List.set_cons_zero, List.set_cons_succ, wp_itmS]
      refine wp_compStr (fun c => if isD c = true then none else some (.str ⟨#[c]⟩)) (Nat.lt_of_le_of_lt h4 (by rw [sizeLine_eq]; decide)) (fun x hx c R r => ?_) ?_
      · simp only [startS, List.map_cons, List.map_nil, List.length_cons, List.length_nil, Nat.reduceAdd, Nat.reduceSub, List.replicate_succ, List.replicate_zero, List.cons_append, List.nil_append, List.append_nil, xw_cons, xw_nil, mEqs, xw_bnd, wp_bnd, wp_ret, xw_ret, wp_var, List.getElem?_cons_zero, List.getElem?_cons_succ, Ds.at, wp_if, opEqs, wp_ite, if_true, fn_eq, List.zip_nil_left, List.zip_cons_cons, Bool.false_eq_true, if_false, setAll, List.set_cons_zero, List.set_cons_succ, wp_notIn1]
        cases hx2 : isD x with
        | true =>
          rw [hx2] at r
          have : decide (x ∈ cs ("0123456789" : Str)) = true := hx2
          simp only [this, Bool.not_true, Bool.false_eq_true, if_false]
          exact r
        | false =>
          rw [hx2] at r
          have : decide (x ∈ cs ("0123456789" : Str)) = false := hx2
          simp only [this, Bool.not_false, if_true, wp_bnd, wp_ret]
          exact r
      · have e2 : (cs H).filterMap (fun c => if isD c = true then none else some (MV.str ⟨#[c]⟩)) = (((cs H).filter fun c => !isD c).map fun c => (⟨#[c]⟩ : Str)).map MV.str := by
          generalize cs H = l
          induction l with
          | nil => rfl
          | cons c r ih =>
            rw [List.filterMap_cons, List.filter_cons]
            cases hc : isD c with
            | true => simpa using ih
            | false => simpa using ih
        rw [e2]
        simp only [startS, List.map_cons, List.map_nil, List.length_cons, List.length_nil, Nat.reduceAdd, Nat.reduceSub, List.replicate_succ, List.replicate_zero, List.cons_append, List.nil_append, List.append_nil, xw_cons, xw_nil, mEqs, xw_bnd, wp_bnd, wp_ret, xw_ret, wp_var, List.getElem?_cons_zero, List.getElem?_cons_succ, Ds.at, wp_if, opEqs, wp_ite, if_true, fn_eq, List.zip_nil_left, List.zip_cons_cons, Bool.false_eq_true, if_false, setAll, List.set_cons_zero, List.set_cons_succ, sl 0 (by decide), wp_alloc]
        have hH' : ∀ c ∈ cs H, c ∈ cs s := fun c hcc => by rw [hc] at hcc; exact List.mem_of_mem_drop (List.mem_of_mem_take hcc)
        rw [wp_neNil (at_ap at_push) at_push (by
          intro t ht c hcc
          obtain ⟨y, hy, rfl⟩ := List.mem_map.mp ht
          have hcc : c ∈ [y] := hcc
          rw [List.mem_singleton] at hcc
          subst hcc
          have := okC_iff.mp (h.al c (hH' c (List.mem_filter.mp hy).1))
          omega)]
        have e3 : ((((cs H).filter fun c => !isD c).map fun c => (⟨#[c]⟩ : Str))).isEmpty = (cs H).all isD := by
          rw [List.isEmpty_map, Bool.eq_iff_iff, List.isEmpty_iff, List.filter_eq_nil_iff, List.all_eq_true]
          simp
        rw [e3]
        have fp : Fr u (u ++ [Cell.lst ((((cs H).filter fun c => !isD c).map fun c => (⟨#[c]⟩ : Str)).map MV.str)] ++ [Cell.lst []]) [] := Fr.push.trans .push (fun _ _ h => h)
        generalize (u ++ [Cell.lst ((((cs H).filter fun c => !isD c).map fun c => (⟨#[c]⟩ : Str)).map MV.str)] ++ [Cell.lst []]) = u1 at fp
        cases hd : (cs H).all isD with
        | false =>
          simp only [startS, List.map_cons, List.map_nil, List.length_cons, List.length_nil, Nat.reduceAdd, Nat.reduceSub, List.replicate_succ, List.replicate_zero, List.cons_append, List.nil_append, List.append_nil, xw_cons, xw_nil, mEqs, xw_bnd, wp_bnd, wp_ret, xw_ret, wp_var, List.getElem?_cons_zero, List.getElem?_cons_succ, Ds.at, wp_if, opEqs, wp_ite, if_true, fn_eq, List.zip_nil_left, List.zip_cons_cons, Bool.false_eq_true, if_false, setAll, List.set_cons_zero, List.set_cons_succ, Bool.not_false]
          exact stop fp (by unfold frAt; rw [if_pos (.inr (by rw [← hc]; exact hd))])
        | true =>
          simp only [startS, List.map_cons, List.map_nil, List.length_cons, List.length_nil, Nat.reduceAdd, Nat.reduceSub, List.replicate_succ, List.replicate_zero, List.cons_append, List.nil_append, List.append_nil, xw_cons, xw_nil, mEqs, xw_bnd, wp_bnd, wp_ret, xw_ret, wp_var, List.getElem?_cons_zero, List.getElem?_cons_succ, Ds.at, wp_if, opEqs, wp_ite, if_true, fn_eq, List.zip_nil_left, List.zip_cons_cons, Bool.false_eq_true, if_false, setAll, List.set_cons_zero, List.set_cons_succ, Bool.not_true]
          have hne : cs H ≠ [] := fun z => by
            have : H.length = 0 := by rw [← cs_len, z]; rfl
            omega
          rw [wp_intS hd hne (by omega)]
          have ei : (a : Int) + 4 + (val4 (cs H) : Nat) = ((a + 4 + val4 (cs H) : Nat) : Int) := by push_cast; rfl
          try simp only [ei, startS, List.map_cons, List.map_nil, List.length_cons, List.length_nil, Nat.reduceAdd, Nat.reduceSub, List.replicate_succ, List.replicate_zero, List.cons_append, List.nil_append, List.append_nil, xw_cons, xw_nil, mEqs, xw_bnd, wp_bnd, wp_ret, xw_ret, wp_var, List.getElem?_cons_zero, List.getElem?_cons_succ, Ds.at, wp_if, opEqs, wp_ite, if_true, fn_eq, List.zip_nil_left, List.zip_cons_cons, Bool.false_eq_true, if_false, setAll, List.set_cons_zero, List.set_cons_succ, wp_slcS, part_i]
          refine ⟨sl _ (by omega), ?_⟩
          have ne1 : ∀ {x y : Str} {R : MV → Wd → Prop} {E' : Exn → Wd → Prop} {u : Wd}, wp (cmpM .NotEq (.str x) (.str y)) R E' u = R (.bl (!decide (x = y))) u := fun {x y R E' u} => rfl
          rw [ne1]
          by_cases hdot : (cs s)[a + 4 + val4 (cs H)]? = some 46
          · rw [decide_eq_true ((dot_iff s _).mpr hdot)]
            have hu1 := fp.at hu (by simp)
            simp only [startS, List.map_cons, List.map_nil, List.length_cons, List.length_nil, Nat.reduceAdd, Nat.reduceSub, List.replicate_succ, List.replicate_zero, List.cons_append, List.nil_append, List.append_nil, xw_cons, xw_nil, mEqs, xw_bnd, wp_bnd, wp_ret, xw_ret, wp_var, List.getElem?_cons_zero, List.getElem?_cons_succ, Ds.at, wp_if, opEqs, wp_ite, if_true, fn_eq, List.zip_nil_left, List.zip_cons_cons, Bool.false_eq_true, if_false, setAll, List.set_cons_zero, List.set_cons_succ, Bool.not_true]
            rw [wp_appC hu1]
            try simp only [startS, List.map_cons, List.map_nil, List.length_cons, List.length_nil, Nat.reduceAdd, Nat.reduceSub, List.replicate_succ, List.replicate_zero, List.cons_append, List.nil_append, List.append_nil, xw_cons, xw_nil, mEqs, xw_bnd, wp_bnd, wp_ret, xw_ret, wp_var, List.getElem?_cons_zero, List.getElem?_cons_succ, Ds.at, wp_if, opEqs, wp_ite, if_true, fn_eq, List.zip_nil_left, List.zip_cons_cons, Bool.false_eq_true, if_false, setAll, List.set_cons_zero, List.set_cons_succ, wp_slcS, part_i]
            refine ⟨sl _ (by omega), ?_⟩
            rw [wp_app hu1 (by unfold stv; rw [List.length_map, sizeLine_eq]; omega)]
            have e4 : (a : Int) + 4 = ((a + 4 : Nat) : Int) := by push_cast; rfl
            have hf : frAt (cs s) a = some (cs (cutS s (some ((a : Int) + 4)) (some ((a + 4 + val4 (cs H) : Nat) : Int)))) := by
              unfold frAt
              rw [if_neg (by rw [← hc, hd, cs_len]; simp; omega), ← hc, if_pos hdot, cs_cut, e4, cutL_nat, Nat.add_sub_cancel_left]
            have hle2 := frAt_len hf
            generalize htt : cutS s (some ((a : Int) + 4)) (some ((a + 4 + val4 (cs H) : Nat) : Int)) = tt at hf hle2
            have hv : (cs tt).length = val4 (cs H) := by
              rw [← htt, cs_cut, e4, cutL_nat, List.length_take, List.length_drop]
              have := (List.getElem?_eq_some_iff.mp hdot).1
              omega
            have el : ((a + 4 + val4 (cs H) : Nat) : Int) + 1 = ((a + 5 + (cs tt).length : Nat) : Int) := by rw [hv]; push_cast; omega
            simp only [startS, List.map_cons, List.map_nil, List.length_cons, List.length_nil, Nat.reduceAdd, Nat.reduceSub, List.replicate_succ, List.replicate_zero, List.cons_append, List.nil_append, List.append_nil, xw_cons, xw_nil, mEqs, xw_bnd, wp_bnd, wp_ret, xw_ret, wp_var, List.getElem?_cons_zero, List.getElem?_cons_succ, Ds.at, wp_if, opEqs, wp_ite, if_true, fn_eq, List.zip_nil_left, List.zip_cons_cons, Bool.false_eq_true, if_false, setAll, List.set_cons_zero, List.set_cons_succ, el]
            refine ⟨fs ++ [cs tt], a + 5 + (cs tt).length, _, _, _, _, rfl, hr.step hf, by rw [List.length_append, List.length_singleton]; omega, by omega, ?_, ?_⟩
            · rw [List.getElem?_set_self (lt_of_at hu1)]
              unfold stv
              rw [List.map_append, List.map_singleton, mk_cs]
            · refine (fu.trans fp (fun _ _ h => h)).trans .set fun i hi hm => ?_
              rw [List.mem_singleton] at hm
              omega
          · rw [decide_eq_false fun z => hdot ((dot_iff s _).mp z)]
            simp only [startS, List.map_cons, List.map_nil, List.length_cons, List.length_nil, Nat.reduceAdd, Nat.reduceSub, List.replicate_succ, List.replicate_zero, List.cons_append, List.nil_append, List.append_nil, xw_cons, xw_nil, mEqs, xw_bnd, wp_bnd, wp_ret, xw_ret, wp_var, List.getElem?_cons_zero, List.getElem?_cons_succ, Ds.at, wp_if, opEqs, wp_ite, if_true, fn_eq, List.zip_nil_left, List.zip_cons_cons, Bool.false_eq_true, if_false, setAll, List.set_cons_zero, List.set_cons_succ, Bool.not_false]
            exact stop fp (by unfold frAt; rw [if_neg (by rw [← hc, hd, cs_len]; simp; omega), ← hc, if_neg hdot])
  · exfalso
    have := hr.1
    rw [cs_len] at this
    have e : (Itm.rng 0 J).len = J := rfl
    rw [e] at hi5
    omega
end
end K05
set_option Elab.async false
set_option linter.all false
set_option maxRecDepth 100000
set_option maxHeartbeats 4000000
namespace K05
open PySem Mir L2 TL
theorem stv_map (ts : List (List Nat)) : stv ts = (ts.map mkS).map MV.str := by unfold stv; rw [List.map_map]; rfl
section
variable {n b K : Nat} {w : Wd} {v : MV} {k : Kd} {Q : MV → Wd → Prop} {E : Exn → Wd → Prop}
theorem equal_ok {a c : MV} {d : PyData} (h1 : toD deepest w a = some d) (h2 : toD deepest w c = some d) (hs : SeqAt.shaped d = true) (sh : Shows d) (q : Q (.bl true) w) : wp (callF T (n + 1) ("_law_equal", none) [a, c] []) Q E w := by
  refine wp_call (d := d__law_equal) rfl (bind2 (p := "_law_told_here") (q := "_law_due") (by decide)) ?_
  unfold d__law_equal
  simp only [startS, List.map_cons, List.map_nil, List.length_cons, List.length_nil, Nat.reduceAdd, Nat.reduceSub, List.replicate_succ, List.replicate_zero, List.cons_append, List.nil_append, List.append_nil, xw_cons, xw_nil, mEqs, xw_bnd, wp_bnd, wp_ret, xw_ret, wp_var, List.getElem?_cons_zero, List.getElem?_cons_succ, Ds.at, wp_if, opEqs, wp_ite, if_true, fn_eq, List.zip_nil_left, List.zip_cons_cons, Bool.false_eq_true, if_false, setAll, List.set_cons_zero, List.set_cons_succ]
  rw [wp_eqD h1 h2 hs]
  simp only [startS, List.map_cons, List.map_nil, List.length_cons, List.length_nil, Nat.reduceAdd, Nat.reduceSub, List.replicate_succ, List.replicate_zero, List.cons_append, List.nil_append, List.append_nil, xw_cons, xw_nil, mEqs, xw_bnd, wp_bnd, wp_ret, xw_ret, wp_var, List.getElem?_cons_zero, List.getElem?_cons_succ, Ds.at, wp_if, opEqs, wp_ite, if_true, fn_eq, List.zip_nil_left, List.zip_cons_cons, Bool.false_eq_true, if_false, setAll, List.set_cons_zero, List.set_cons_succ]
  rw [wp_eqRepr h1 h2 sh]
  exact q
/-- what is read of signs, as data -/
theorem rd_data (s : Str) (h : StrP okP 100000 s) : (Sm (100102) 2 (frD ((rd (cs s)).1.map mkS) ((rd (cs s)).2 : Nat)) ∧ SeqAt.shaped (frD ((rd (cs s)).1.map mkS) ((rd (cs s)).2 : Nat)) = true) ∧ (rd (cs s)).1.length ≤ 100000 := by
  obtain ⟨f1, f2, f3⟩ := rd_facts (cs s)
  have hle := h.le
  rw [cs_len] at f1
  have hw : wt ((rd (cs s)).1.map mkS) ≤ (rd (cs s)).2 := by
    rw [← f2]
    unfold wt
    rw [List.map_map]
    generalize (rd (cs s)).1 = l
    induction l with
    | nil => exact Nat.le_refl _
    | cons t r ih =>
      simp only [List.map_cons, List.sum_cons, Function.comp_apply, mk_len] at ih ⊢
      omega
  have hc : (rd (cs s)).1.length ≤ (rd (cs s)).2 := by
    rw [← f2]
    generalize (rd (cs s)).1 = l
    induction l with
    | nil => exact Nat.le_refl _
    | cons t r ih => simp only [List.map_cons, List.sum_cons, List.length_cons] at ih ⊢; omega
  obtain ⟨g1, g2⟩ := frD_sm (ts := (rd (cs s)).1.map mkS) (g := ((rd (cs s)).2 : Nat)) (fun t ht c hcc => by
    obtain ⟨y, hy, rfl⟩ := List.mem_map.mp ht
    rw [cs_mk] at hcc
    have := okC_iff.mp (h.al c (f3 y hy c hcc))
    omega) (by omega)
  exact ⟨⟨g1.mono (by omega) (Nat.le_refl _), g2⟩, by omega⟩
theorem told_ok {s : Str} {d : Nat} {turn : Int} (h : StrP okP 100000 s) (hd : w[d]? = some (.lst (stv (rd (cs s)).1))) (q : ∀ w', Fr w w' [] → Q (.bl true) w') : wp (callF T (n + 3) ("_law_told", none) [.str s, .tup [.ref d, .int ((rd (cs s)).2 : Nat)], .int turn] []) Q E w := by
  obtain ⟨⟨sm, shp⟩, hcn⟩ := rd_data s h
  have sh := sm.shows (by rw [sizeLine_eq]; decide) (by decide)
  have dat : ∀ {u : Wd} {r : Nat}, u[r]? = some (.lst (stv (rd (cs s)).1)) → toD deepest u (.tup [.ref r, .int ((rd (cs s)).2 : Nat)]) = some (frD ((rd (cs s)).1.map mkS) ((rd (cs s)).2 : Nat)) := fun {u r} hr => by
    rw [stv_map] at hr
    exact frD_of hr 38
  have h7 : StrP okP 7000000 s := h.mono (by decide)
  refine wp_call (d := d__law_told) (as := [.str s, .tup [.ref d, .int ((rd (cs s)).2 : Nat)], .int turn]) rfl rfl ?_
  unfold d__law_told
  have kw : callF T (n + 2) ("frames_in", none) [] [("signs", .str s)] = callF T (n + 2) ("frames_in", none) [.str s] [] := call_kw (d := d_frames_in) (as := [.str s]) rfl rfl rfl
  simp only [startS, List.map_cons, List.map_nil, List.length_cons, List.length_nil, Nat.reduceAdd, Nat.reduceSub, List.replicate_succ, List.replicate_zero, List.cons_append, List.nil_append, List.append_nil, xw_cons, xw_nil, mEqs, xw_bnd, wp_bnd, wp_ret, xw_ret, wp_var, List.getElem?_cons_zero, List.getElem?_cons_succ, Ds.at, wp_if, opEqs, wp_ite, if_true, fn_eq, List.zip_nil_left, List.zip_cons_cons, Bool.false_eq_true, if_false, setAll, List.set_cons_zero, List.set_cons_succ, wp_eqI, kw]
  have main : ∀ {r : Nat} {w1 : Wd}, w.length ≤ r → Fr w w1 [] → w1[r]? = some (.lst (stv (rd (cs s)).1)) →
      wp (callF T (n + 2) ("_law_equal", none) [.tup [.ref r, .int ((rd (cs s)).2 : Nat)], .tup [.ref d, .int ((rd (cs s)).2 : Nat)]] [])
    (fun a w' => wp (truM a) (fun a w' => if (!a) = true then Q (MV.bl false) w' else
            wp (idxM (.tup [.ref r, .int ((rd (cs s)).2 : Nat)]) (.int 0)) (fun a w' => wp (bmChk .append a) (fun _ w' => wp (bmM .append a [.str "more"]) (fun _ w' =>
              if (turn == 1) = true then wp (bmChk .reverse a) (fun _ w' => wp (bmM .reverse a []) (fun _ w' => wp (callF T (n + 2) ("frames_in", none) [.str s] []) (fun x w' => wp (callF T (n + 2) ("_law_equal", none) [x, .tup [.ref d, .int ((rd (cs s)).2 : Nat)]] []) Q E w') E w') E w') E w'
              else wp (callF T (n + 2) ("frames_in", none) [.str s] []) (fun x w' => wp (callF T (n + 2) ("_law_equal", none) [x, .tup [.ref d, .int ((rd (cs s)).2 : Nat)]] []) Q E w') E w') E w') E w') E w') E w') E w1 := by
    intro r w1 hr f1 hr1
    have hd1 := f1.at hd (by simp)
    have hdl := lt_of_at hd
    have hrl := lt_of_at hr1
    refine equal_ok (dat hr1) (dat hd1) shp sh ?_
    have i0 : ∀ {R : MV → Wd → Prop} {E : Exn → Wd → Prop} {u : Wd}, wp (idxM (.tup [.ref r, .int ((rd (cs s)).2 : Nat)]) (.int 0)) R E u = R (.ref r) u := fun {R E u} => rfl
    simp only [opEqs, wp_ret, Bool.not_true, Bool.false_eq_true, if_false]
    rw [i0, wp_appC hr1, wp_app hr1 (by unfold stv; rw [List.length_map, sizeLine_eq]; omega)]
    have f2 : Fr w (w1.set r (.lst (stv (rd (cs s)).1 ++ [.str "more"]))) [] := f1.trans .set fun i hi hm => by
      rw [List.mem_singleton] at hm
      omega
    have hr2 : (w1.set r (.lst (stv (rd (cs s)).1 ++ [.str "more"])))[r]? = some (.lst (stv (rd (cs s)).1 ++ [.str "more"])) := List.getElem?_set_self hrl
    have last : ∀ {u : Wd}, Fr w u [] → wp (callF T (n + 2) ("frames_in", none) [.str s] []) (fun x w' => wp (callF T (n + 2) ("_law_equal", none) [x, .tup [.ref d, .int ((rd (cs s)).2 : Nat)]] []) Q E w') E u := fun {u} fu => by
      refine frames_ok h7 fun r3 u3 g1 g2 g3 => ?_
      have f4 := fu.trans g2 (fun _ _ h => h)
      exact equal_ok (dat g3) (dat (f4.at hd (by simp))) shp sh (q u3 f4)
    split
    · rw [wp_chkL rfl hr2, wp_rev hr2]
      refine last (f2.trans .set fun i hi hm => ?_)
      rw [List.mem_singleton] at hm
      omega
    · exact last f2
  split
  · exact frames_ok h7 fun r w1 g1 g2 g3 => main g1 g2 g3
  · exact frames_ok h7 fun r w1 g1 g2 g3 => main g1 g2 g3
end
end K05
set_option Elab.async false
set_option linter.all false
set_option maxRecDepth 100000
set_option maxHeartbeats 4000000
namespace K05
open PySem Mir L2 TL
section
variable {n b K : Nat} {w : Wd} {v : MV} {k : Kd} {Q : MV → Wd → Prop}
theorem ml (a : Int) (h : -(2 ^ 64) < a ∧ a < 2 ^ 64) (j : Int) : mulOkB a j = true := by
  have e : (decide (-(2 ^ 64) < a) && decide (a < 2 ^ 64)) = true := by
    rw [Bool.and_eq_true, decide_eq_true_eq, decide_eq_true_eq]; exact h
  unfold mulOkB; rw [e]; rfl
theorem frS_len {t : Str} (h : t.length ≤ 9999) : (frS t).length = t.length + 5 := by
  unfold frS
  rw [mk_len, frm_len (by rw [cs_len]; exact h), cs_len]
theorem ap_len (a b : Str) : (a ++ b).length = a.length + b.length := by rw [← cs_len, cs_append, List.length_append, cs_len, cs_len]
theorem text_ok (hb : Box w b K) (hK : K + 100 < 2 ^ 36) (q : ∀ t w', StrP okP 200 t → Fr w w' [b] → Box w' b (K + 20) → Q (.str t) w') : wp (callF T (n + 2) ("_law_text", none) [.ref b] []) Q NoE w := by
  refine wp_call (d := d__law_text) rfl (bind1 (p := "_law_box_here")) ?_
  unfold d__law_text
  simp only [startS, List.map_cons, List.map_nil, List.length_cons, List.length_nil, Nat.reduceAdd, Nat.reduceSub, List.replicate_succ, List.replicate_zero, List.cons_append, List.nil_append, List.append_nil, xw_cons, xw_nil, mEqs, xw_bnd, wp_bnd, wp_ret, xw_ret, wp_var, List.getElem?_cons_zero, List.getElem?_cons_succ, Ds.at, wp_if, opEqs, wp_ite, if_true, fn_eq, List.zip_nil_left, List.zip_cons_cons, Bool.false_eq_true, if_false, setAll, List.set_cons_zero, List.set_cons_succ, sl 4 (by decide)]
  refine alph_ok fun A A2 A1 => ?_
  refine take1 hb (by omega) (by decide) (by decide) fun kd w1 k0 k1 f1 b1 => ?_
  refine take1 b1 (by omega) (by decide) (by decide) fun at_ w2 a0 a1 f2 b2 => ?_
  refine take1 b2 (by omega) (by decide) (by decide) fun mn w3 m0 m1 f3 b3 => ?_
  have f := (f1.trans f2 (fun _ _ h => h)).trans f3 (fun _ _ h => h)
  have fin : ∀ {N : Nat} s, StrP okP N s → N ≤ 200 → Q (.str s) w3 := fun s hs hn => q s w3 (hs.mono hn) f (b3.mono (by omega))
  have A3 : A.length ≤ sizeLine := sl _ (by omega)
  have o1 : ∀ {c : Nat}, c ∈ cs A → StrP okP 1 ⟨#[c]⟩ := fun hc => StrP.one (A2.al _ hc)
  have sp : StrP okP 1 (" " : Str) := StrP.of (by decide +kernel)
  have dt : StrP okP 1 ("." : Str) := StrP.of (by decide +kernel)
  have z0 : StrP okP 1 ("0" : Str) := StrP.of (by decide +kernel)
  have z2 : StrP okP 4 ("0002" : Str) := StrP.of (by decide +kernel)
  simp only [startS, List.map_cons, List.map_nil, List.length_cons, List.length_nil, Nat.reduceAdd, Nat.reduceSub, List.replicate_succ, List.replicate_zero, List.cons_append, List.nil_append, List.append_nil, xw_cons, xw_nil, mEqs, xw_bnd, wp_bnd, wp_ret, xw_ret, wp_var, List.getElem?_cons_zero, List.getElem?_cons_succ, Ds.at, wp_if, opEqs, wp_ite, if_true, fn_eq, List.zip_nil_left, List.zip_cons_cons, Bool.false_eq_true, if_false, setAll, List.set_cons_zero, List.set_cons_succ, wp_eqI]
  split
  · exact fin (N := 0) _ (StrP.of (by decide +kernel)) (by decide)
  split
  · simp only [part_i, wp_ret, wp_slcS]
    refine ⟨A3, ?_⟩
    have hc := A2.cut (some at_) (some (at_ + mn))
    refine frame_ok (by have := hc.le; omega) ?_
    refine fin _ (frS_sg (hc.mono (by decide))) (by have := hc.le; omega)
  split
  · refine frame_ok (by decide +kernel) ?_
    refine wp_idxS A3 a0 (by omega) fun c hc _ => ?_
    have h1 := frS_sg ((o1 hc).mono (by decide))
    have h0 := frS_sg (t := "") (StrP.of (by decide +kernel))
    have e0 : ("" : Str).length = 0 := by decide +kernel
    refine frame_ok (by have := (o1 hc).le; omega) ?_
    simp only [part_i, part_n, wp_ret, wp_slcS, wp_addS]
    have l1 := h1.le
    have l2 := (h1.cut none (some mn)).le
    have l3 := h0.le
    have l4 := (o1 hc).le
    exact ⟨sl _ (by omega), sl _ (by omega), fin _ (h0.append (h1.cut none (some mn))) (by omega)⟩
  split
  · have hm := dt.mul (M := 11) (n := mn) (by omega)
    have := hm.le
    have := z0.le
    simp only [wp_mulS, wp_addS]
    exact ⟨⟨m0, by omega, by have := dt.le; have : ("." : Str).length * mn.toNat ≤ 1 * 11 := Nat.mul_le_mul this (by omega); omega⟩, sl _ (by omega), fin _ (hm.append z0) (by decide)⟩
  split
  · have ha := A2.append A2
    have := ha.le
    simp only [part_i, wp_ret, wp_slcS, wp_addS, wp_mul _ _ (ml 2 (by decide) _), opEqs]
    exact ⟨sl _ (by omega), sl _ (by omega), fin _ (ha.cut _ _) (by decide)⟩
  split
  · have hm := sp.mul (M := 11) (n := mn) (by omega)
    have := hm.le
    have := z2.le
    simp only [wp_mulS, wp_addS]
    refine ⟨⟨m0, by omega, by have := sp.le; have : (" " : Str).length * mn.toNat ≤ 1 * 11 := Nat.mul_le_mul this (by omega); omega⟩, sl _ (by omega), ?_⟩
    refine wp_idxS A3 a0 (by omega) fun c hc _ => ?_
    have := (o1 hc).le
    have := (hm.append z2).le
    simp only [wp_addS]
    exact ⟨sl _ (by omega), fin _ ((hm.append z2).append (o1 hc)) (by decide)⟩
  · rw [joinChk, wp_rng (by omega) (by omega)]
    refine wp_comp (fun i acc u => ∃ ys : List Str, acc = ys.map MV.str ∧ ys.length = i ∧ (∀ y ∈ ys, StrP okP 1 y) ∧ u[w3.length]? = some (.lst acc) ∧ Fr w3 u [b] ∧ Box u b (K + 3 + i)) ⟨[], rfl, rfl, by simp, at_push, .push, b3.fr (ns := []) .push (by simp) (by omega)⟩ (fun i acc u hi ⟨ys, h1, h2, h3, h4, h5, h6⟩ => ⟨.int (0 + i), ?_, ?_⟩) (fun acc u ⟨ys, h1, h2, h3, h4, h5, h6⟩ => ⟨rfl, ?_⟩)
    · show (if i < mn.toNat then some (MV.int (0 + i)) else none) = _
      exact if_pos hi
    · have hi' : i < mn.toNat := hi
      simp only [startS, List.map_cons, List.map_nil, List.length_cons, List.length_nil, Nat.reduceAdd, Nat.reduceSub, List.replicate_succ, List.replicate_zero, List.cons_append, List.nil_append, List.append_nil, xw_cons, xw_nil, mEqs, xw_bnd, wp_bnd, wp_ret, xw_ret, wp_var, List.getElem?_cons_zero, List.getElem?_cons_succ, Ds.at, wp_if, opEqs, wp_ite, if_true, fn_eq, List.zip_nil_left, List.zip_cons_cons, Bool.false_eq_true, if_false, setAll, List.set_cons_zero, List.set_cons_succ]
      refine take1 h6 (by omega) (by decide) (by decide) fun a u2 g0 g1 g2 g3 => ?_
      refine wp_idxS A3 g0 (by omega) fun c hc _ => ?_
      have hne : w3.length ≠ b := by have := b3.lt; omega
      have h7 : u2[w3.length]? = some (.lst acc) := g2.at h4 (by rw [List.mem_singleton]; exact hne)
      refine ⟨h7, by rw [h1, List.length_map, sizeLine_eq]; omega, ys ++ [⟨#[c]⟩], by rw [h1, List.map_append]; rfl, by rw [List.length_append, h2]; rfl, fun y hy => ?_, List.getElem?_set_self (lt_of_at h7), ?_, ?_⟩
      · rw [List.mem_append, List.mem_singleton] at hy
        rcases hy with hy | rfl
        · exact h3 y hy
        · exact o1 hc
      · refine (h5.trans g2 (fun _ _ h => h)).trans .set fun j hj hm => ?_
        rw [List.mem_singleton] at hm
        omega
      · exact g3.fr .set (by rw [List.mem_singleton]; exact Ne.symm hne) (by omega)
    · have hm : (Itm.rng 0 mn.toNat).len = mn.toNat := rfl
      rw [hm] at h2 h6
      have hj := StrP.join h3
      rw [h1] at h4
      rw [wp_joinS h4 (by
        have e : (ys.map (·.length)).sum ≤ ys.length := by
          clear h1 h2 h4 hj
          induction ys with
          | nil => simp
          | cons y r ih =>
            have e1 := (h3 y List.mem_cons_self).le
            have e2 := ih fun z hz => h3 z (List.mem_cons_of_mem _ hz)
            simp only [List.map_cons, List.sum_cons, List.length_cons]
            omega
        omega)]
      exact q _ u (hj.mono (by omega)) (f.trans h5 (fun _ _ h => h)) (h6.mono (by omega))
theorem texts_ok {great : Bool} (hb : Box w b K) (hK : K + 1000 < 2 ^ 36) (q : ∀ (ts : List Str) (r : Nat) (w' : Wd), w.length ≤ r → (∀ t ∈ ts, StrP okP 9999 t) → (ts.map (·.length)).sum ≤ 10600 → ts.length ≤ 6 → Fr w w' [b] → Box w' b (K + 300) → w'[r]? = some (.lst (ts.map MV.str)) → Q (.ref r) w') :
    wp (callF T (n + 3) ("_law_texts", none) [.ref b, .bl great] []) Q NoE w := by
  refine wp_call (d := d__law_texts) rfl (bind2 (p := "_law_box_here") (q := "_law_great") (by decide)) ?_
  unfold d__law_texts
  simp only [startS, List.map_cons, List.map_nil, List.length_cons, List.length_nil, Nat.reduceAdd, Nat.reduceSub, List.replicate_succ, List.replicate_zero, List.cons_append, List.nil_append, List.append_nil, xw_cons, xw_nil, mEqs, xw_bnd, wp_bnd, wp_ret, xw_ret, wp_var, List.getElem?_cons_zero, List.getElem?_cons_succ, Ds.at, wp_if, opEqs, wp_ite, if_true, fn_eq, List.zip_nil_left, List.zip_cons_cons, Bool.false_eq_true, if_false, setAll, List.set_cons_zero, List.set_cons_succ, sl 3 (by decide)]
  refine take1 hb (by omega) (by decide) (by decide) fun mn w1 m0 m1 f1 b1 => ?_
  refine take1 b1 (by omega) (by decide) (by decide) fun at_ w2 a0 a1 f2 b2 => ?_
  refine take1 b2 (by omega) (by decide) (by decide) fun sz w3 s0 s1 f3 b3 => ?_
  have f := (f1.trans f2 (fun _ _ h => h)).trans f3 (fun _ _ h => h)
  have hle := f.le
  have hbl := b3.lt
  have hb0 := hb.lt
  cases great with
  | false =>
    simp only [Bool.not_false, if_true]
    rw [wp_rng (by omega) (by omega)]
    refine wp_comp (fun i acc u => ∃ ys : List Str, acc = ys.map MV.str ∧ ys.length = i ∧ (∀ y ∈ ys, StrP okP 200 y) ∧ u[w3.length]? = some (.lst acc) ∧ Fr w3 u [b] ∧ Box u b (K + 3 + 20 * i)) ⟨[], rfl, rfl, by simp, at_push, .push, b3.fr (ns := []) .push (by simp) (by omega)⟩ (fun i acc u hi ⟨ys, h1, h2, h3, h4, h5, h6⟩ => ⟨.int (0 + i), ?_, ?_⟩) (fun acc u ⟨ys, h1, h2, h3, h4, h5, h6⟩ => ⟨rfl, ?_⟩)
    · show (if i < mn.toNat then some (MV.int (0 + i)) else none) = _
      exact if_pos hi
    · have hi' : i < mn.toNat := hi
      simp only [startS, List.map_cons, List.map_nil, List.length_cons, List.length_nil, Nat.reduceAdd, Nat.reduceSub, List.replicate_succ, List.replicate_zero, List.cons_append, List.nil_append, List.append_nil, xw_cons, xw_nil, mEqs, xw_bnd, wp_bnd, wp_ret, xw_ret, wp_var, List.getElem?_cons_zero, List.getElem?_cons_succ, Ds.at, wp_if, opEqs, wp_ite, if_true, fn_eq, List.zip_nil_left, List.zip_cons_cons, Bool.false_eq_true, if_false, setAll, List.set_cons_zero, List.set_cons_succ]
      refine text_ok h6 (by omega) fun t u2 ht g2 g3 => ?_
      have hne : w3.length ≠ b := by omega
      have h7 : u2[w3.length]? = some (.lst acc) := g2.at h4 (by rw [List.mem_singleton]; exact hne)
      refine ⟨h7, by rw [h1, List.length_map, sizeLine_eq]; omega, ys ++ [t], by rw [h1, List.map_append]; rfl, by rw [List.length_append, h2]; rfl, fun y hy => ?_, List.getElem?_set_self (lt_of_at h7), ?_, ?_⟩
      · rw [List.mem_append, List.mem_singleton] at hy
        rcases hy with hy | rfl
        · exact h3 y hy
        · exact ht
      · refine (h5.trans g2 (fun _ _ h => h)).trans .set fun j hj hm => ?_
        rw [List.mem_singleton] at hm
        omega
      · exact g3.fr .set (by rw [List.mem_singleton]; exact Ne.symm hne) (by omega)
    · have hm : (Itm.rng 0 mn.toNat).len = mn.toNat := rfl
      rw [hm] at h2 h6
      refine q ys w3.length u hle (fun t ht => (h3 t ht).mono (by decide)) ?_ (by omega) (f.trans h5 (fun _ _ h => h)) (h6.mono (by omega)) (by rw [h4, h1])
      have : (ys.map (·.length)).sum ≤ 200 * ys.length := by
        clear h1 h2 h4
        induction ys with
        | nil => simp
        | cons y r ih =>
          have e1 := (h3 y List.mem_cons_self).le
          have e2 := ih fun z hz => h3 z (List.mem_cons_of_mem _ hz)
          simp only [List.map_cons, List.sum_cons, List.length_cons]
          omega
      have : 200 * ys.length ≤ 200 * 6 := Nat.mul_le_mul_left _ (by omega)
      omega
  | true =>
    simp only [Bool.not_true, Bool.false_eq_true, if_false]
    refine text_ok b3 (by omega) fun t1 w4 ht1 f4 b4 => ?_
    refine text_ok b4 (by omega) fun t2 w5 ht2 f5 b5 => ?_
    simp only [startS, List.map_cons, List.map_nil, List.length_cons, List.length_nil, Nat.reduceAdd, Nat.reduceSub, List.replicate_succ, List.replicate_zero, List.cons_append, List.nil_append, List.append_nil, xw_cons, xw_nil, mEqs, xw_bnd, wp_bnd, wp_ret, xw_ret, wp_var, List.getElem?_cons_zero, List.getElem?_cons_succ, Ds.at, wp_if, opEqs, wp_ite, if_true, fn_eq, List.zip_nil_left, List.zip_cons_cons, Bool.false_eq_true, if_false, setAll, List.set_cons_zero, List.set_cons_succ, sl 2 (by decide), sl 4 (by decide), wp_alloc]
    have h6 : (w5 ++ [Cell.lst [MV.str t1, .str t2]])[w5.length]? = some (.lst [.str t1, .str t2]) := at_push
    rw [wp_chkL rfl h6]
    try simp only [startS, List.map_cons, List.map_nil, List.length_cons, List.length_nil, Nat.reduceAdd, Nat.reduceSub, List.replicate_succ, List.replicate_zero, List.cons_append, List.nil_append, List.append_nil, xw_cons, xw_nil, mEqs, xw_bnd, wp_bnd, wp_ret, xw_ret, wp_var, List.getElem?_cons_zero, List.getElem?_cons_succ, Ds.at, wp_if, opEqs, wp_ite, if_true, fn_eq, List.zip_nil_left, List.zip_cons_cons, Bool.false_eq_true, if_false, setAll, List.set_cons_zero, List.set_cons_succ]
    refine alph_ok fun A A2 A1 => ?_
    have hmu := A2.mul (M := 107) (n := 107) (by decide)
    simp only [wp_mulS]
    refine ⟨⟨by decide, by decide, by rw [A1]; decide⟩, ?_⟩
    simp only [startS, List.map_cons, List.map_nil, List.length_cons, List.length_nil, Nat.reduceAdd, Nat.reduceSub, List.replicate_succ, List.replicate_zero, List.cons_append, List.nil_append, List.append_nil, xw_cons, xw_nil, mEqs, xw_bnd, wp_bnd, wp_ret, xw_ret, wp_var, List.getElem?_cons_zero, List.getElem?_cons_succ, Ds.at, wp_if, opEqs, wp_ite, if_true, fn_eq, List.zip_nil_left, List.zip_cons_cons, Bool.false_eq_true, if_false, setAll, List.set_cons_zero, List.set_cons_succ, part_n]
    have b6 : Box (w5 ++ [Cell.lst [MV.str t1, .str t2]]) b (K + 1 + 1 + 1 + 20 + 20) := b5.fr (ns := []) .push (by simp) (Nat.le_refl _)
    have l4 := f4.le
    have l5 := f5.le
    refine take1 b6 (by omega) (by decide) (by decide) fun z w7 z0 z1 f7 b7 => ?_
    simp only [startS, List.map_cons, List.map_nil, List.length_cons, List.length_nil, Nat.reduceAdd, Nat.reduceSub, List.replicate_succ, List.replicate_zero, List.cons_append, List.nil_append, List.append_nil, xw_cons, xw_nil, mEqs, xw_bnd, wp_bnd, wp_ret, xw_ret, wp_var, List.getElem?_cons_zero, List.getElem?_cons_succ, Ds.at, wp_if, opEqs, wp_ite, if_true, fn_eq, List.zip_nil_left, List.zip_cons_cons, Bool.false_eq_true, if_false, setAll, List.set_cons_zero, List.set_cons_succ, sl 4 (by decide), wp_alloc]
    have pick : ∃ c : Int, atI [MV.int 999, .int 1000, .int 9999, .int (9950 + z)] sz = some (.int c) ∧ 0 ≤ c ∧ c ≤ 9999 := by
      have : sz = 0 ∨ sz = 1 ∨ sz = 2 ∨ sz = 3 := by omega
      rcases this with rfl | rfl | rfl | rfl
      · exact ⟨_, rfl, by decide, by decide⟩
      · exact ⟨_, rfl, by decide, by decide⟩
      · exact ⟨_, rfl, by decide, by decide⟩
      · exact ⟨_, rfl, by omega, by omega⟩
    obtain ⟨c, hc, c0, c1⟩ := pick
    rw [wp_idxL at_push hc]
    simp only [part_i, wp_ret, wp_slcS]
    have hmle := hmu.le
    refine ⟨sl _ (by omega), ?_⟩
    have hcut : StrP okP 9999 (cutS (Txt.mul A 107) none (some c)) := by
      refine ⟨?_, (hmu.cut none (some c)).al⟩
      obtain ⟨m, rfl⟩ : ∃ m : Nat, c = m := ⟨c.toNat, by omega⟩
      rw [← cs_len, cs_cut, cutL_pre, List.length_take]
      omega
    generalize cutS (Txt.mul A 107) none (some c) = big at hcut
    have h7 : w7[w5.length]? = some (.lst [.str t1, .str t2]) := f7.at h6 (by rw [List.mem_singleton]; omega)
    have h8 : (w7 ++ [Cell.lst [MV.int 999, .int 1000, .int 9999, .int (9950 + z)]])[w5.length]? = some (.lst [.str t1, .str t2]) := at_ap h7
    rw [wp_ins h8 (by rw [sizeLine_eq]; exact (by decide : (2 : Nat) < 16777216)) a0 (by omega)]
    have f8 : Fr w (w7 ++ [Cell.lst [MV.int 999, .int 1000, .int 9999, .int (9950 + z)]]) [b] := ((((f.trans f4 (fun _ _ h => h)).trans f5 (fun _ _ h => h)).trans .push (fun _ _ h => h)).trans f7 (fun _ _ h => h)).trans .push (fun _ _ h => h)
    have b8 : Box (w7 ++ [Cell.lst [MV.int 999, .int 1000, .int 9999, .int (9950 + z)]]) b (K + 1 + 1 + 1 + 20 + 20 + 1) := b7.fr (ns := []) .push (by simp) (Nat.le_refl _)
    generalize (w7 ++ [Cell.lst [MV.int 999, .int 1000, .int 9999, .int (9950 + z)]]) = w8 at h8 f8 b8
    have hal : ∀ t ∈ [t1, t2, big], StrP okP 9999 t := fun t ht => by
      simp only [List.mem_cons, List.not_mem_nil, or_false] at ht
      rcases ht with rfl | rfl | rfl
      · exact ht1.mono (by decide)
      · exact ht2.mono (by decide)
      · exact hcut
    have g1 := ht1.le
    have g2 := ht2.le
    have g3 := hcut.le
    have fin : ∀ ts : List Str, ts.Perm [t1, t2, big] → Q (.ref w5.length) (w8.set w5.length (.lst (ts.map MV.str))) := fun ts hp => by
      refine q ts w5.length _ (by omega) (fun t ht => hal t (hp.mem_iff.mp ht)) ?_ (by rw [hp.length_eq]; exact (by decide : (3 : Nat) ≤ 6)) ?_ ?_ (List.getElem?_set_self (lt_of_at h8))
      · rw [(hp.map (·.length)).sum_nat]
        simp only [List.map_cons, List.map_nil, List.sum_cons, List.sum_nil]
        omega
      · refine f8.trans .set fun i hi hm => ?_
        rw [List.mem_singleton] at hm
        omega
      · exact b8.fr .set (by rw [List.mem_singleton]; omega) (by omega)
    have : at_ = 0 ∨ at_ = 1 ∨ at_ = 2 := by omega
    rcases this with rfl | rfl | rfl
    · exact fin [big, t1, t2] (by
        refine (List.perm_append_comm (l₁ := [big]) (l₂ := [t1, t2])))
    · exact fin [t1, big, t2] (List.Perm.cons _ (List.Perm.swap _ _ _))
    · exact fin [t1, t2, big] (List.Perm.refl _)
end
end K05
set_option Elab.async false
set_option linter.all false
set_option maxRecDepth 100000
set_option maxHeartbeats 4000000
namespace K05
open PySem Mir L2 TL
def css (ts : List Str) : List (List Nat) := ts.map cs
def tot (ts : List (List Nat)) : Nat := (ts.map fun t => t.length + 5).sum
def nts (l : List Nat) : List MV := l.map fun x : Nat => MV.int (x : Int)
theorem endsF_snoc : ∀ (ts : List (List Nat)) (a : Nat) (t : List Nat), endsF a (ts ++ [t]) = endsF a ts ++ [a + tot ts + t.length + 5]
  | [], a, t => by simp [endsF, tot]
  | x :: ts, a, t => by
    have ih := endsF_snoc ts (a + x.length + 5) t
    rw [List.cons_append]
    unfold endsF
    rw [ih, List.cons_append]
    congr 3
    unfold tot
    simp only [List.map_cons, List.sum_cons]
    omega
theorem endsF_last : ∀ (ts : List (List Nat)) (a : Nat), ∃ ys, endsF a ts = ys ++ [a + tot ts]
  | [], a => ⟨[], by simp [endsF, tot]⟩
  | x :: ts, a => by
    obtain ⟨ys, h⟩ := endsF_last ts (a + x.length + 5)
    refine ⟨a :: ys, ?_⟩
    unfold endsF
    rw [h, List.cons_append]
    congr 3
    unfold tot
    simp only [List.map_cons, List.sum_cons]
    omega
theorem endsF_le : ∀ (ts : List (List Nat)) (a x : Nat), x ∈ endsF a ts → x ≤ a + tot ts
  | [], a, x, h => by
    unfold endsF at h
    rw [List.mem_singleton] at h
    omega
  | t :: ts, a, x, h => by
    unfold endsF at h
    rw [List.mem_cons] at h
    have e : tot (t :: ts) = t.length + 5 + tot ts := by unfold tot; simp only [List.map_cons, List.sum_cons]
    rcases h with h | h
    · omega
    · have := endsF_le ts _ x h
      omega
theorem endsF_tail (ts : List (List Nat)) (x : Nat) (h : x ∈ (endsF 0 ts).drop 1) : 5 ≤ x := by
  cases ts with
  | nil => cases h
  | cons t ts =>
    unfold endsF at h
    have := endsF_ge ts _ x h
    omega
theorem endsF_init : ∀ (ts : List (List Nat)) (a x : Nat), x ∈ (endsF a ts).take ((endsF a ts).length - 1) → x + 5 ≤ a + tot ts
  | [], a, x, h => by cases h
  | t :: ts, a, x, h => by
    have hl := endsF_len ts (a + t.length + 5)
    have e : tot (t :: ts) = t.length + 5 + tot ts := by unfold tot; simp only [List.map_cons, List.sum_cons]
    unfold endsF at h
    rw [List.length_cons, Nat.add_sub_cancel, hl, List.take_succ_cons, List.mem_cons] at h
    rcases h with h | h
    · omega
    · have := endsF_init ts (a + t.length + 5) x (by rw [hl, Nat.add_sub_cancel]; exact h)
      omega
theorem atI_last {α : Type} {ys : List α} {z : α} : atI (ys ++ [z]) (-1) = some z := by
  unfold atI ixN
  rw [if_neg (by decide), if_pos (by rw [List.length_append, List.length_singleton]; omega)]
  have : (-1 + ((ys ++ [z]).length : Int)).toNat = ys.length := by rw [List.length_append, List.length_singleton]; omega
  rw [Option.bind_some, this, List.getElem?_append_right (Nat.le_refl _), Nat.sub_self]
  rfl
theorem nts_last (ts : List (List Nat)) : atI (nts (endsF 0 ts)) (-1) = some (.int (tot ts : Nat)) := by
  obtain ⟨ys, h⟩ := endsF_last ts 0
  rw [h, Nat.zero_add]
  unfold nts
  rw [List.map_append, List.map_singleton]
  exact atI_last
section
variable {n b K : Nat} {w : Wd} {v : MV} {k : Kd} {Q : MV → Wd → Prop}
theorem ends_ok {ts : List Str} {r : Nat} (h : w[r]? = some (.lst (ts.map MV.str))) (hl : ts.length ≤ 3000) (ht : ∀ t ∈ ts, t.length ≤ 9999) (q : ∀ e w', w.length ≤ e → Fr w w' [] → w'[e]? = some (.lst (nts (endsF 0 (css ts)))) → Q (.ref e) w') :
    wp (callF T (n + 1) ("_law_ends", none) [.ref r] []) Q NoE w := by
  refine wp_call (d := d__law_ends) rfl (bind1 (p := "_law_texts_here")) ?_
  unfold d__law_ends
  have hrl := lt_of_at h
  simp only [startS, List.map_cons, List.map_nil, List.length_cons, List.length_nil, Nat.reduceAdd, Nat.reduceSub, List.replicate_succ, List.replicate_zero, List.cons_append, List.nil_append, List.append_nil, xw_cons, xw_nil, mEqs, xw_bnd, wp_bnd, wp_ret, xw_ret, wp_var, List.getElem?_cons_zero, List.getElem?_cons_succ, Ds.at, wp_if, opEqs, wp_ite, if_true, fn_eq, List.zip_nil_left, List.zip_cons_cons, Bool.false_eq_true, if_false, setAll, List.set_cons_zero, List.set_cons_succ, sl 1 (by decide), wp_alloc]
  have h0 : (w ++ [Cell.lst [MV.int 0]])[r]? = some (.lst (ts.map MV.str)) := at_ap h
  rw [wp_itmL h0]
  refine wp_for (fun i S u => ∃ x, S = [some (.ref r), some (.ref w.length), x] ∧ u[w.length]? = some (.lst (nts (endsF 0 ((css ts).take i)))) ∧ Fr w u []) _ 0 _ _ (Nat.zero_add _) ⟨none, rfl, at_push, .push⟩ (fun i S u hi ⟨x, hS, hu, fu⟩ => ?_) (fun S u ⟨x, hS, hu, fu⟩ => ?_)
  · have hi' : i < ts.length := by simpa [Itm.len] using hi
    have hur := fu.at h (by simp)
    refine ⟨.str ts[i], ?_, ?_⟩
    · show (match u[r]? with
        | some (.lst xs) => if xs.length = (ts.map MV.str).length then xs[i]? else none
        | some (.rdl xs) => if xs.length = (ts.map MV.str).length then xs[i]? else none
        | _ => none) = _
      rw [hur]
      dsimp only
      rw [if_pos rfl, List.getElem?_map, List.getElem?_eq_getElem hi']
      rfl
    · subst hS
      have htl := ht ts[i] (List.getElem_mem hi')
      simp only [startS, List.map_cons, List.map_nil, List.length_cons, List.length_nil, Nat.reduceAdd, Nat.reduceSub, List.replicate_succ, List.replicate_zero, List.cons_append, List.nil_append, List.append_nil, xw_cons, xw_nil, mEqs, xw_bnd, wp_bnd, wp_ret, xw_ret, wp_var, List.getElem?_cons_zero, List.getElem?_cons_succ, Ds.at, wp_if, opEqs, wp_ite, if_true, fn_eq, List.zip_nil_left, List.zip_cons_cons, Bool.false_eq_true, if_false, setAll, List.set_cons_zero, List.set_cons_succ, wp_appC hu, wp_idx, hu, nts_last, wp_lenS]
      refine ⟨sl _ (by omega), ?_⟩
      rw [wp_app hu (by unfold nts; rw [List.length_map, endsF_len, List.length_take, sizeLine_eq]; unfold css; rw [List.length_map]; omega)]
      refine ⟨some (.str ts[i]), rfl, ?_, ?_⟩
      · rw [List.getElem?_set_self (lt_of_at hu)]
        have hi2 : i < (css ts).length := by unfold css; rw [List.length_map]; exact hi'
        rw [List.take_succ_eq_append_getElem hi2, endsF_snoc]
        unfold nts
        rw [List.map_append, List.map_singleton]
        have e : (css ts)[i] = cs ts[i] := List.getElem_map (f := cs) (l := ts) (i := i) (h := by rw [List.length_map]; exact hi')
        rw [e, cs_len]
        have : ((0 + tot ((css ts).take i) + ts[i].length + 5 : Nat) : Int) = (tot ((css ts).take i) : Nat) + (ts[i].length : Int) + 5 := by push_cast; omega
        rw [this]
      · refine fu.trans .set fun j hj hm => ?_
        rw [List.mem_singleton] at hm
        omega
  · subst hS
    have hur := fu.at h (by simp)
    refine ⟨?_, ?_⟩
    · show (match u[r]? with
        | some (.lst xs) => xs.length == (ts.map MV.str).length
        | some (.rdl xs) => xs.length == (ts.map MV.str).length
        | _ => false) = true
      rw [hur]
      simp
    · have e : (Itm.cell r (ts.map MV.str).length).len = ts.length := by simp [Itm.len]
      rw [e] at hu
      have e2 : (css ts).take ts.length = css ts := List.take_of_length_le (by unfold css; rw [List.length_map]; exact Nat.le_refl _)
      rw [e2] at hu
      simp only [startS, List.map_cons, List.map_nil, List.length_cons, List.length_nil, Nat.reduceAdd, Nat.reduceSub, List.replicate_succ, List.replicate_zero, List.cons_append, List.nil_append, List.append_nil, xw_cons, xw_nil, mEqs, xw_bnd, wp_bnd, wp_ret, xw_ret, wp_var, List.getElem?_cons_zero, List.getElem?_cons_succ, Ds.at, wp_if, opEqs, wp_ite, if_true, fn_eq, List.zip_nil_left, List.zip_cons_cons, Bool.false_eq_true, if_false, setAll, List.set_cons_zero, List.set_cons_succ]
      exact q w.length u (Nat.le_refl _) fu hu
end
end K05
set_option Elab.async false
set_option linter.all false
set_option maxRecDepth 100000
set_option maxHeartbeats 4000000
namespace K05
open PySem Mir L2 TL
section
variable {n b K : Nat} {w : Wd} {v : MV} {k : Kd} {Q : MV → Wd → Prop}
/-- pure comprehension over a list of ints -/
theorem wp_compInts {m : Nat} {xs : List MV} {body : MV → M (Option MV)} (h : w[m]? = some (.lst xs)) (g : MV → Option MV) (hl : xs.length < sizeLine)
    (hb : ∀ x ∈ xs, ∀ (c : List MV) (R : Option MV → Wd → Prop), R (g x) (w ++ [.lst c]) → wp (body x) R NoE (w ++ [.lst c])) (q : Q (.ref w.length) (w ++ [.lst (xs.filterMap g)])) : wp (compM (.cell m xs.length) body) Q NoE w := by
  have hm := lt_of_at h
  have at_ : ∀ c : List MV, (w ++ [Cell.lst c])[m]? = some (.lst xs) := fun c => at_ap h
  refine wp_compP xs g (fun c i => ?_) rfl (fun c => ?_) hl hb q
  · show (match (w ++ [Cell.lst c])[m]? with
      | some (.lst ys) => if ys.length = xs.length then ys[i]? else none
      | some (.rdl ys) => if ys.length = xs.length then ys[i]? else none
      | _ => none) = _
    rw [at_]
    dsimp only
    rw [if_pos rfl]
  · show (match (w ++ [Cell.lst c])[m]? with
      | some (.lst ys) => ys.length == xs.length
      | some (.rdl ys) => ys.length == xs.length
      | _ => false) = true
    rw [at_]
    simp
def its (l : List Int) : List MV := l.map MV.int
theorem nts_its (l : List Nat) : nts l = its (l.map fun x : Nat => (x : Int)) := by unfold nts its; rw [List.map_map]; rfl
/-- the cuts: ints from 0 to the end -/
theorem cuts_ok {ts : List (List Nat)} {e : Nat} (he : w[e]? = some (.lst (nts (endsF 0 ts)))) (hl : ts.length ≤ 6) (hL : tot ts < 100000) (hb : Box w b K) (hbe : b ≠ e) (hK : K + 1000 < 2 ^ 36)
    (q : ∀ (l : List Int) (r : Nat) (w' : Wd), w.length ≤ r → (∀ x ∈ l, 0 ≤ x ∧ x ≤ tot ts) → l.length ≤ 100 → Fr w w' [b] → Box w' b (K + 10) → w'[r]? = some (.lst (its l)) → Q (.ref r) w') :
    wp (callF T (n + 2) ("_law_cuts", none) [.ref b, .ref e] []) Q NoE w := by
  refine wp_call (d := d__law_cuts) rfl (bind2 (p := "_law_box_here") (q := "_law_ends_here") (by decide)) ?_
  unfold d__law_cuts
  have hel := lt_of_at he
  have hEl := endsF_len ts 0
  obtain ⟨L, hLt⟩ : ∃ L : Int, L = (tot ts : Nat) := ⟨_, rfl⟩
  have hlast := nts_last ts
  rw [← hLt] at hlast
  obtain ⟨L1, hL1⟩ : ∃ L1 : Int, L1 = L + 1 := ⟨_, rfl⟩
  have ad1 : binM .Add (.int L) (.int 1) = Mir.ret (.int L1) := by rw [hL1]; rfl
  rw [xw_cons]
  simp only [startS, List.map_cons, List.map_nil, List.length_cons, List.length_nil, Nat.reduceAdd, Nat.reduceSub, List.replicate_succ, List.replicate_zero, List.cons_append, List.nil_append, List.append_nil, xw_cons, xw_nil, mEqs, xw_bnd, wp_bnd, wp_ret, xw_ret, wp_var, List.getElem?_cons_zero, List.getElem?_cons_succ, Ds.at, wp_if, opEqs, wp_ite, if_true, fn_eq, List.zip_nil_left, List.zip_cons_cons, Bool.false_eq_true, if_false, setAll, List.set_cons_zero, List.set_cons_succ, wp_idx, he, hlast]
  split
  · have hlr : ∀ (R : MV → Wd → Prop) (E : Exn → Wd → Prop) (u : Wd), wp (lrgM (.int L1)) R E u = R (.ref u.length) (u ++ [.lst ((List.range (tot ts + 1)).map fun k : Nat => MV.int (k : Int))]) := fun R E u => by
      have e1 : L1 = ((tot ts + 1 : Nat) : Int) := by omega
      rw [e1]
      exact wp_lrg (by omega)
    have h50 : L ≤ 50 := by
      have := ‹decide (L ≤ 50) = true›
      simpa using this
    rw [den_lrg, wp_bnd, den_bin, wp_bnd, den_idx, wp_bnd, wp_var]
    simp only [List.getElem?_cons_zero, List.getElem?_cons_succ, den_neg, den_lit, wp_bnd, wp_ret, opEqs, wp_idx, he, hlast, ad1, hlr]
    refine q ((List.range (tot ts + 1)).map fun k : Nat => (k : Int)) w.length _ (Nat.le_refl _) (fun x hx => ?_) (by rw [List.length_map, List.length_range]; omega) .push (hb.fr (ns := []) .push (by simp) (by omega)) ?_
    · obtain ⟨j, hj, rfl⟩ := List.mem_map.mp hx
      rw [List.mem_range] at hj
      omega
    · rw [at_push]
      unfold its
      rw [List.map_map]
      rfl
  have h50 : 50 < L := by
    have := ‹¬ decide (L ≤ 50) = true›
    simpa using this
  try simp only [startS, List.map_cons, List.map_nil, List.length_cons, List.length_nil, Nat.reduceAdd, Nat.reduceSub, List.replicate_succ, List.replicate_zero, List.cons_append, List.nil_append, List.append_nil, xw_cons, xw_nil, mEqs, xw_bnd, wp_bnd, wp_ret, xw_ret, wp_var, List.getElem?_cons_zero, List.getElem?_cons_succ, Ds.at, wp_if, opEqs, wp_ite, if_true, fn_eq, List.zip_nil_left, List.zip_cons_cons, Bool.false_eq_true, if_false, setAll, List.set_cons_zero, List.set_cons_succ, wp_idx, he, hlast]
  split
  · have h900 : 900 < L := by
      have := ‹decide (900 < L) = true›
      simpa using this
    obtain ⟨x, hx, x0, x1⟩ : ∃ x : Int, atI (nts (endsF 0 ts)) 1 = some (.int x) ∧ 0 ≤ x ∧ x ≤ L := by
      cases ts with
      | nil => unfold tot at hLt; simp at hLt; omega
      | cons t ts =>
        obtain ⟨y, ys, hy⟩ : ∃ y ys, endsF (0 + t.length + 5) ts = y :: ys := by cases ts <;> exact ⟨_, _, rfl⟩
        have hy2 := endsF_le (t :: ts) 0 y (by unfold endsF; rw [hy]; simp)
        refine ⟨y, ?_, by omega, by omega⟩
        unfold endsF
        rw [hy]
        obtain ⟨v, e1, e2⟩ := atI_nat (xs := nts (0 :: y :: ys)) (k := 1) (by decide) (by unfold nts; simp only [List.map_cons, List.length_cons]; omega)
        rw [e1]
        have : (nts (0 :: y :: ys))[(1 : Int).toNat]? = some (.int (y : Int)) := rfl
        rw [this] at e2
        exact e2.symm
    simp only [hx, startS, List.map_cons, List.map_nil, List.length_cons, List.length_nil, Nat.reduceAdd, Nat.reduceSub, List.replicate_succ, List.replicate_zero, List.cons_append, List.nil_append, List.append_nil, xw_cons, xw_nil, mEqs, xw_bnd, wp_bnd, wp_ret, xw_ret, wp_var, List.getElem?_cons_zero, List.getElem?_cons_succ, Ds.at, wp_if, opEqs, wp_ite, if_true, fn_eq, List.zip_nil_left, List.zip_cons_cons, Bool.false_eq_true, if_false, setAll, List.set_cons_zero, List.set_cons_succ, sl 3 (by decide), wp_alloc]
    refine take1 hb (by omega) (by omega) (by omega) fun z w1 z0 z1 f1 b1 => ?_
    have := f1.le
    refine q [x, L - 1, z] w1.length _ (by omega) (fun y hy => ?_) (by simp) (f1.trans .push (fun _ _ h => h)) (b1.fr (ns := []) .push (by simp) (by omega)) at_push
    simp only [List.mem_cons, List.not_mem_nil, or_false] at hy
    rcases hy with rfl | rfl | rfl <;> omega
  · try simp only [startS, List.map_cons, List.map_nil, List.length_cons, List.length_nil, Nat.reduceAdd, Nat.reduceSub, List.replicate_succ, List.replicate_zero, List.cons_append, List.nil_append, List.append_nil, xw_cons, xw_nil, mEqs, xw_bnd, wp_bnd, wp_ret, xw_ret, wp_var, List.getElem?_cons_zero, List.getElem?_cons_succ, Ds.at, wp_if, opEqs, wp_ite, if_true, fn_eq, List.zip_nil_left, List.zip_cons_cons, Bool.false_eq_true, if_false, setAll, List.set_cons_zero, List.set_cons_succ]
    have nl : (nts (endsF 0 ts)).length = ts.length + 1 := by unfold nts; rw [List.length_map, hEl]
    have s1 : cutL (nts (endsF 0 ts)) (some 1) none = nts ((endsF 0 ts).drop 1) := by
      have := cutL_suf (nts (endsF 0 ts)) 1
      unfold nts at this ⊢
      rw [List.map_drop]
      exact this
    have s2 : cutL (nts (endsF 0 ts)) none (some (-1)) = nts ((endsF 0 ts).take ((endsF 0 ts).length - 1)) := by
      unfold cutL
      have e1 : HT.sIx (nts (endsF 0 ts)).length 0 none = 0 := rfl
      have e2 : HT.sIx (nts (endsF 0 ts)).length (nts (endsF 0 ts)).length (some (-1)) = (nts (endsF 0 ts)).length - 1 := by
        show (if (-1 : Int) < 0 then ((-1 : Int) + ((nts (endsF 0 ts)).length : Int)).toNat else min (-1 : Int).toNat (nts (endsF 0 ts)).length) = _
        rw [if_pos (by decide)]
        omega
      rw [e1, e2, List.drop_zero, Nat.sub_zero]
      unfold nts
      rw [List.length_map, List.map_take]
    generalize hE : endsF 0 ts = EE at *
    have lt1 : ∀ l : List Nat, l.length ≤ ts.length + 1 → (nts l).length < sizeLine := fun l hl' => by
      unfold nts
      rw [List.length_map, sizeLine_eq]
      omega
    rw [part_i, part_n]
    simp only [wp_ret]
    rw [wp_slcL he, s1]
    have hc1 : (w ++ [Cell.lst (nts (EE.drop 1))])[w.length]? = some (.lst (nts (EE.drop 1))) := at_push
    rw [wp_itmL hc1]
    refine wp_compInts hc1 (fun v => match v with | .int z => some (.int (z - 1)) | _ => none) (lt1 _ (by rw [List.length_drop, hEl]; omega)) (fun x hx c R r => ?_) ?_
    · obtain ⟨y, hy, rfl⟩ := List.mem_map.mp hx
      simp only [startS, List.map_cons, List.map_nil, List.length_cons, List.length_nil, Nat.reduceAdd, Nat.reduceSub, List.replicate_succ, List.replicate_zero, List.cons_append, List.nil_append, List.append_nil, xw_cons, xw_nil, mEqs, xw_bnd, wp_bnd, wp_ret, xw_ret, wp_var, List.getElem?_cons_zero, List.getElem?_cons_succ, Ds.at, wp_if, opEqs, wp_ite, if_true, fn_eq, List.zip_nil_left, List.zip_cons_cons, Bool.false_eq_true, if_false, setAll, List.set_cons_zero, List.set_cons_succ]
      exact r
    have g1 : (nts (EE.drop 1)).filterMap (fun v => match v with | .int z => some (MV.int (z - 1)) | _ => none) = its ((EE.drop 1).map fun x : Nat => (x : Int) - 1) := by
      generalize EE.drop 1 = l
      unfold nts its
      induction l with
      | nil => rfl
      | cons a r ih => simp only [List.map_cons, List.filterMap_cons, ih]
    rw [g1]
    have he1 : (w ++ [Cell.lst (nts (EE.drop 1))] ++ [Cell.lst (its ((EE.drop 1).map fun x : Nat => (x : Int) - 1))])[e]? = some (.lst (nts EE)) := at_ap (at_ap he)
    rw [wp_addL he1 at_push (by rw [nl]; unfold its; rw [List.length_map, List.length_map, List.length_drop, hEl, sizeLine_eq]; omega)]
    have f3 : Fr w (w ++ [Cell.lst (nts (EE.drop 1))] ++ [Cell.lst (its ((EE.drop 1).map fun x : Nat => (x : Int) - 1))] ++ [Cell.lst (nts EE ++ its ((EE.drop 1).map fun x : Nat => (x : Int) - 1))]) [] := (Fr.push.trans .push (fun _ _ h => h)).trans .push (fun _ _ h => h)
    have hA : (w ++ [Cell.lst (nts (EE.drop 1))] ++ [Cell.lst (its ((EE.drop 1).map fun x : Nat => (x : Int) - 1))] ++ [Cell.lst (nts EE ++ its ((EE.drop 1).map fun x : Nat => (x : Int) - 1))])[(w ++ [Cell.lst (nts (EE.drop 1))] ++ [Cell.lst (its ((EE.drop 1).map fun x : Nat => (x : Int) - 1))]).length]? = some (.lst (nts EE ++ its ((EE.drop 1).map fun x : Nat => (x : Int) - 1))) := at_push
    generalize (w ++ [Cell.lst (nts (EE.drop 1))] ++ [Cell.lst (its ((EE.drop 1).map fun x : Nat => (x : Int) - 1))] ++ [Cell.lst (nts EE ++ its ((EE.drop 1).map fun x : Nat => (x : Int) - 1))]) = w3 at f3 hA
    generalize (w ++ [Cell.lst (nts (EE.drop 1))] ++ [Cell.lst (its ((EE.drop 1).map fun x : Nat => (x : Int) - 1))]).length = rA at hA
    have he3 := f3.at he (by simp)
    rw [part_i]
    simp only [wp_ret]
    rw [wp_slcL he3, s2]
    have hc2 : (w3 ++ [Cell.lst (nts (EE.take (EE.length - 1)))])[w3.length]? = some (.lst (nts (EE.take (EE.length - 1)))) := at_push
    rw [wp_itmL hc2]
    refine wp_compInts hc2 (fun v => match v with | .int z => some (.int (z + 4)) | _ => none) (lt1 _ (by rw [List.length_take, hEl]; omega)) (fun x hx c R r => ?_) ?_
    · obtain ⟨y, hy, rfl⟩ := List.mem_map.mp hx
      simp only [startS, List.map_cons, List.map_nil, List.length_cons, List.length_nil, Nat.reduceAdd, Nat.reduceSub, List.replicate_succ, List.replicate_zero, List.cons_append, List.nil_append, List.append_nil, xw_cons, xw_nil, mEqs, xw_bnd, wp_bnd, wp_ret, xw_ret, wp_var, List.getElem?_cons_zero, List.getElem?_cons_succ, Ds.at, wp_if, opEqs, wp_ite, if_true, fn_eq, List.zip_nil_left, List.zip_cons_cons, Bool.false_eq_true, if_false, setAll, List.set_cons_zero, List.set_cons_succ]
      exact r
    have g2 : (nts (EE.take (EE.length - 1))).filterMap (fun v => match v with | .int z => some (MV.int (z + 4)) | _ => none) = its ((EE.take (EE.length - 1)).map fun x : Nat => (x : Int) + 4) := by
      generalize EE.take (EE.length - 1) = l
      unfold nts its
      induction l with
      | nil => rfl
      | cons a r ih => simp only [List.map_cons, List.filterMap_cons, ih]
    rw [g2]
    have hA2 := at_ap (c := Cell.lst (its ((EE.take (EE.length - 1)).map fun x : Nat => (x : Int) + 4))) (at_ap (c := Cell.lst (nts (EE.take (EE.length - 1)))) hA)
    rw [wp_addL hA2 at_push (by rw [List.length_append, nl]; unfold its; rw [List.length_map, List.length_map, List.length_drop, List.length_map, List.length_map, List.length_take, hEl, sizeLine_eq]; omega)]
    obtain ⟨I0, hI0⟩ : ∃ I0 : List Int, I0 = EE.map (fun x : Nat => (x : Int)) ++ (EE.drop 1).map (fun x : Nat => (x : Int) - 1) ++ (EE.take (EE.length - 1)).map (fun x : Nat => (x : Int) + 4) := ⟨_, rfl⟩
    have eI : nts EE ++ its ((EE.drop 1).map fun x : Nat => (x : Int) - 1) ++ its ((EE.take (EE.length - 1)).map fun x : Nat => (x : Int) + 4) = its I0 := by
      rw [nts_its, hI0]
      unfold its
      rw [List.map_append, List.map_append]
    rw [eI]
    have hIb : ∀ x ∈ I0, 0 ≤ x ∧ x ≤ tot ts := fun x hx => by
      rw [hI0, List.mem_append, List.mem_append] at hx
      rcases hx with (hx | hx) | hx
      · obtain ⟨y, hy, rfl⟩ := List.mem_map.mp hx
        have := endsF_le ts 0 y (by rw [hE]; exact hy)
        omega
      · obtain ⟨y, hy, rfl⟩ := List.mem_map.mp hx
        have h1 := endsF_le ts 0 y (by rw [hE]; exact List.mem_of_mem_drop hy)
        have h2 := endsF_tail ts y (by rw [hE]; exact hy)
        omega
      · obtain ⟨y, hy, rfl⟩ := List.mem_map.mp hx
        have h1 := endsF_init ts 0 y (by rw [hE]; exact hy)
        omega
    have hIl : I0.length ≤ 21 := by
      rw [hI0, List.length_append, List.length_append, List.length_map, List.length_map, List.length_map, List.length_drop, List.length_take, hEl]
      omega
    have f4 : Fr w (w3 ++ [Cell.lst (nts (EE.take (EE.length - 1)))] ++ [Cell.lst (its ((EE.take (EE.length - 1)).map fun x : Nat => (x : Int) + 4))] ++ [Cell.lst (its I0)]) [] := ((f3.trans .push (fun _ _ h => h)).trans .push (fun _ _ h => h)).trans .push (fun _ _ h => h)
    have hS0 : (w3 ++ [Cell.lst (nts (EE.take (EE.length - 1)))] ++ [Cell.lst (its ((EE.take (EE.length - 1)).map fun x : Nat => (x : Int) + 4))] ++ [Cell.lst (its I0)])[(w3 ++ [Cell.lst (nts (EE.take (EE.length - 1)))] ++ [Cell.lst (its ((EE.take (EE.length - 1)).map fun x : Nat => (x : Int) + 4))]).length]? = some (.lst (its I0)) := at_push
    generalize (w3 ++ [Cell.lst (nts (EE.take (EE.length - 1)))] ++ [Cell.lst (its ((EE.take (EE.length - 1)).map fun x : Nat => (x : Int) + 4))] ++ [Cell.lst (its I0)]) = w4 at f4 hS0
    generalize (w3 ++ [Cell.lst (nts (EE.take (EE.length - 1)))] ++ [Cell.lst (its ((EE.take (EE.length - 1)).map fun x : Nat => (x : Int) + 4))]).length = rS at hS0
    rw [wp_sorted hS0]
    obtain ⟨I1, hI1⟩ : ∃ I1 : List Int, I1 = I0.mergeSort (fun a b => decide (a ≤ b)) := ⟨_, rfl⟩
    rw [← hI1]
    have hp : I1.Perm I0 := by rw [hI1]; exact List.mergeSort_perm _ _
    have f5 : Fr w (w4 ++ [Cell.lst (I1.map MV.int)]) [] := f4.trans .push (fun _ _ h => h)
    have h5 : (w4 ++ [Cell.lst (I1.map MV.int)])[w4.length]? = some (.lst (I1.map MV.int)) := at_push
    have l4 := f4.le
    generalize (w4 ++ [Cell.lst (I1.map MV.int)]) = w5 at f5 h5
    generalize w4.length = rI at h5 l4
    have he5 := f5.at he (by simp)
    have b5 := hb.fr f5 (by simp) (Nat.le_refl K)
    have hil : I1.length ≤ 21 := by rw [hp.length_eq]; exact hIl
    have h5l := lt_of_at h5
    rw [wp_rng (by decide) (by decide)]
    refine wp_comp (fun i acc u => ∃ zs : List Int, acc = its zs ∧ zs.length = i ∧ (∀ z ∈ zs, 0 ≤ z ∧ z ≤ L) ∧ u[w5.length]? = some (.lst acc) ∧ Fr w5 u [b] ∧ Box u b (K + i)) ⟨[], rfl, rfl, by simp, at_push, .push, b5.fr (ns := []) .push (by simp) (by omega)⟩ (fun i acc u hi ⟨zs, h1, h2, h3, h4, h6, h7⟩ => ⟨.int (0 + i), ?_, ?_⟩) (fun acc u ⟨zs, h1, h2, h3, h4, h6, h7⟩ => ⟨rfl, ?_⟩)
    · show (if i < 4 then some (MV.int (0 + i)) else none) = _
      exact if_pos hi
    · have hi' : i < 4 := hi
      have heu := h6.at he5 (by rw [List.mem_singleton]; exact Ne.symm hbe)
      simp only [startS, List.map_cons, List.map_nil, List.length_cons, List.length_nil, Nat.reduceAdd, Nat.reduceSub, List.replicate_succ, List.replicate_zero, List.cons_append, List.nil_append, List.append_nil, xw_cons, xw_nil, mEqs, xw_bnd, wp_bnd, wp_ret, xw_ret, wp_var, List.getElem?_cons_zero, List.getElem?_cons_succ, Ds.at, wp_if, opEqs, wp_ite, if_true, fn_eq, List.zip_nil_left, List.zip_cons_cons, Bool.false_eq_true, if_false, setAll, List.set_cons_zero, List.set_cons_succ, wp_idx, heu, hlast]
      refine take1 h7 (by omega) (by omega) (by omega) fun z u2 z0 z1 g1 g2 => ?_
      have hne : w5.length ≠ b := by have := b5.lt; omega
      have h8 : u2[w5.length]? = some (.lst acc) := g1.at h4 (by rw [List.mem_singleton]; exact hne)
      refine ⟨h8, by rw [h1]; unfold its; rw [List.length_map, sizeLine_eq]; omega, zs ++ [z], by rw [h1]; unfold its; rw [List.map_append]; rfl, by rw [List.length_append, h2]; rfl, fun y hy => ?_, List.getElem?_set_self (lt_of_at h8), ?_, ?_⟩
      · rw [List.mem_append, List.mem_singleton] at hy
        rcases hy with hy | rfl
        · exact h3 y hy
        · omega
      · refine (h6.trans g1 (fun _ _ h => h)).trans .set fun j hj hm => ?_
        rw [List.mem_singleton] at hm
        omega
      · exact g2.fr .set (by rw [List.mem_singleton]; exact Ne.symm hne) (by omega)
    · have hm : (Itm.rng 0 (4 : Int).toNat).len = 4 := rfl
      rw [hm] at h2 h7
      have hr : u[rI]? = some (.lst (I1.map MV.int)) := h6.at h5 (by
        rw [List.mem_singleton]
        have := hb.lt
        omega)
      rw [wp_addL hr h4 (by rw [h1]; unfold its; rw [List.length_map, List.length_map, sizeLine_eq]; omega)]
      have h6l := h6.le
      have f5l := f5.le
      refine q (I1 ++ zs) u.length _ (by omega) (fun x hx => ?_) (by rw [List.length_append]; omega) (((f5.sub (ms := [b]) (fun _ _ z => by cases z)).trans h6 (fun _ _ h => h)).trans .push (fun _ _ h => h)) (h7.fr (ns := []) .push (by simp) (by omega)) ?_
      · rw [List.mem_append] at hx
        rcases hx with hx | hx
        · exact hIb x (hp.mem_iff.mp hx)
        · have := h3 x hx
          omega
      · rw [at_push, h1]
        unfold its
        rw [List.map_append]
end
end K05
set_option Elab.async false
set_option linter.all false
set_option maxRecDepth 100000
set_option maxHeartbeats 4000000
namespace K05
open PySem Mir L2 TL
theorem rowL_len : ∀ (ts : List (List Nat)), (∀ t ∈ ts, t.length ≤ 9999) → (rowL ts).length = tot ts
  | [], _ => rfl
  | t :: ts, h => by
    have ih := rowL_len ts fun x hx => h x (List.mem_cons_of_mem _ hx)
    unfold rowL tot at *
    rw [List.map_cons, List.flatten_cons, List.length_append, ih, frm_len (h t List.mem_cons_self), List.map_cons, List.sum_cons]
theorem cs_row (ts : List Str) : cs (Txt.join "" (ts.map frS)) = rowL (css ts) := by
  rw [cs_tjoin]
  unfold rowL css
  rw [List.map_map, List.map_map]
  all_goals rfl
theorem stv_css (ts : List Str) : stv (css ts) = ts.map MV.str := by
  unfold stv css
  rw [List.map_map]
  exact List.map_congr_left fun t _ => by
    show MV.str (mkS (cs t)) = _
    rw [mk_cs]
theorem tot_css (ts : List Str) : tot (css ts) = (ts.map (·.length)).sum + 5 * ts.length := by
  unfold tot css
  induction ts with
  | nil => rfl
  | cons t r ih =>
    simp only [List.map_cons, List.sum_cons, List.length_cons, cs_len] at ih ⊢
    omega
theorem nts_le (c : Nat) : ∀ l : List Nat, (nts l).filterMap (fun v => match v with | .int z => if decide (z ≤ (c : Int)) = true then some (MV.int z) else none | _ => none) = nts (l.filter fun y => decide (y ≤ c))
  | [] => rfl
  | a :: r => by
    have ih := nts_le c r
    unfold nts at ih ⊢
    rw [List.map_cons, List.filterMap_cons, ih, List.filter_cons]
    by_cases ha : a ≤ c
    · have e1 : decide ((a : Int) ≤ (c : Int)) = true := decide_eq_true (by omega)
      rw [decide_eq_true ha]
      simp only [e1, if_true]
      rfl
    · have e1 : decide ((a : Int) ≤ (c : Int)) = false := decide_eq_false (by omega)
      rw [decide_eq_false ha]
      simp only [e1, Bool.false_eq_true, if_false]
/-- a list's texts, as they are passed about -/
structure Txs5 (ts : List Str) : Prop where
  al : ∀ t ∈ ts, StrP okP 9999 t
  sm : (ts.map (·.length)).sum ≤ 10600
  ln : ts.length ≤ 6
theorem Txs5.len {ts : List Str} (h : Txs5 ts) : ∀ t ∈ css ts, t.length ≤ 9999 := fun t ht => by
  obtain ⟨y, hy, rfl⟩ := List.mem_map.mp ht
  rw [cs_len]
  exact (h.al y hy).le
theorem Txs5.tot {ts : List Str} (h : Txs5 ts) : tot (css ts) ≤ 10630 := by
  rw [tot_css]
  have := h.sm
  have := h.ln
  omega
theorem Txs5.row {ts : List Str} (h : Txs5 ts) : StrP okP 10630 (Txt.join "" (ts.map frS)) := by
  refine ⟨?_, fun c hc => ?_⟩
  · rw [← cs_len, cs_row, rowL_len _ h.len]
    exact h.tot
  · rw [cs_tjoin, List.mem_flatten] at hc
    obtain ⟨l, hl, hc⟩ := hc
    obtain ⟨y, hy, rfl⟩ := List.mem_map.mp hl
    obtain ⟨t, ht, rfl⟩ := List.mem_map.mp hy
    exact (frS_sg (h.al t ht)).al c hc
section
variable {n b K : Nat} {w : Wd} {v : MV} {k : Kd} {Q : MV → Wd → Prop}
/-- "".join([frame(t) for t in texts]) -/
theorem row_ok {ts : List Str} {r : Nat} {S : Mir.Env} {i : Nat} (h : Txs5 ts) (hr : w[r]? = some (.lst (ts.map MV.str))) (hi : i < S.length)
    (q : ∀ w', Fr w w' [] → Q (.str (Txt.join "" (ts.map frS))) w') :
    wp (compM (.cell r (ts.map MV.str).length) fun x => bnd (Mir.ret true) fun t => if t = true then bnd (bnd (bnd (den (T.calls (callF T (n + 1))) none (.var i) (S.set i (some x))) fun v => bnd (Mir.ret ([] : List MV)) fun vs => Mir.ret (v :: vs)) fun vs => bnd (Mir.ret ([] : List MV)) fun us => callF T (n + 1) ("_law_frame", none) vs []) fun y => Mir.ret (some y) else Mir.ret none) (fun v w' => wp (bmM .join (.str "") [v]) Q NoE w') NoE w := by
  refine wp_compInts hr (fun v => match v with | .str t => some (.str (frS t)) | _ => none) (by rw [List.length_map]; have := h.ln; rw [sizeLine_eq]; omega) (fun x hx c R rr => ?_) ?_
  · obtain ⟨t, ht, rfl⟩ := List.mem_map.mp hx
    have e : (S.set i (some (MV.str t)))[i]? = some (some (.str t)) := List.getElem?_set_self hi
    simp only [wp_bnd, wp_ret, if_true, wp_var, e]
    exact frame_ok (h.al t ht).le rr
  · have e : (ts.map MV.str).filterMap (fun v => match v with | .str t => some (MV.str (frS t)) | _ => none) = (ts.map frS).map MV.str := by
      clear h hr q
      induction ts with
      | nil => rfl
      | cons t r ih => simp only [List.map_cons, List.filterMap_cons, ih]
    rw [e, wp_joinS at_push (by
      have := h.row.le
      rw [← cs_len, cs_tjoin, List.length_flatten] at this
      have e2 : ((ts.map frS).map cs).map List.length = (ts.map frS).map (·.length) := by
        rw [List.map_map]
        exact List.map_congr_left fun t _ => cs_len t
      rw [e2] at this
      omega)]
    exact q _ .push
theorem str_shaped {s : Str} (h : ∀ c ∈ cs s, c < 0x110000) : SeqAt.shaped (.str s) = true := by
  obtain ⟨_, h2⟩ := strs_sm [s] (fun t ht => by rw [List.mem_singleton] at ht; subst ht; exact h)
  unfold SeqAt.shaped
  rw [Bool.and_eq_true]
  simp only [List.map_cons, List.map_nil, PyData.canLayAll0, Bool.and_true] at h2
  exact ⟨h2, by simp [PyData.depth]⟩
theorem one_ok {t : Str} (hP : StrP okP 9999 t) (hR : ∀ u2, Fr w u2 [] → Q (.bl true) u2) : wp (callF T (n + 4) ("framed", none) [.str t] []) (fun a w' => wp (callF T (n + 4) ("frames_in", none) [a] []) (fun a w' => wp (Mir.alloc (Cell.lst [MV.str t])) (fun a_2 w' => wp (biM Bi.len [MV.str t]) (fun a_3 w' => wp (binM Operator.Add a_3 (MV.int 5)) (fun a_4 w' => wp (callF T (n + 4) ("_law_equal", none) [a, MV.tup [a_2, a_4]] []) Q NoE w') NoE w') NoE w') NoE w') NoE w') NoE w := by
  refine framed_ok (n := n + 2) hP fun u2 g2 => ?_
  have hF := frS_sg hP
  have hle := hP.le
  refine frames_ok (n := n + 2) (hF.mono (by omega)) fun r3 u3 h3 g3 hr3' => ?_
  rw [wp_alloc]
  simp only [startS, List.map_cons, List.map_nil, List.length_cons, List.length_nil, Nat.reduceAdd, Nat.reduceSub, List.replicate_succ, List.replicate_zero, List.cons_append, List.nil_append, List.append_nil, xw_cons, xw_nil, mEqs, xw_bnd, wp_bnd, wp_ret, xw_ret, wp_var, List.getElem?_cons_zero, List.getElem?_cons_succ, Ds.at, wp_if, opEqs, wp_ite, if_true, fn_eq, List.zip_nil_left, List.zip_cons_cons, Bool.false_eq_true, if_false, setAll, List.set_cons_zero, List.set_cons_succ, wp_lenS]
  have hrd : rd (cs (frS t)) = ([cs t], t.length + 5) := by
    have := rd_row (ts := [cs t]) (fun x hx => by rw [List.mem_singleton] at hx; subst hx; rw [cs_len]; exact hle)
    have e1 : rowL [cs t] = cs (frS t) := by
      unfold rowL frS
      rw [cs_mk]
      simp
    rw [e1] at this
    rw [this, cs_len, frS_len hle]
  rw [hrd] at hr3' ⊢
  have hr4 : u3[r3]? = some (.lst (([t] : List Str).map MV.str)) := by
    rw [hr3']
    unfold stv
    simp only [List.map_cons, List.map_nil, mk_cs]
  have hr5 : (u3 ++ [Cell.lst [MV.str t]])[r3]? = some (.lst (([t] : List Str).map MV.str)) := at_ap hr4
  have hr6 : (u3 ++ [Cell.lst [MV.str t]])[u3.length]? = some (.lst (([t] : List Str).map MV.str)) := at_push
  obtain ⟨s1, s2⟩ := frD_sm (ts := [t]) (g := ((t.length + 5 : Nat) : Int)) (fun x hx c hc => by
    rw [List.mem_singleton] at hx
    subst hx
    have := okC_iff.mp (hP.al c hc)
    omega) (by omega)
  have e5 : ((t.length : Int) + 5) = ((t.length + 5 : Nat) : Int) := by push_cast; rfl
  rw [e5]
  refine ⟨sl _ (by omega), ?_⟩
  refine equal_ok (n := n + 3) (frD_of hr5 38) (frD_of hr6 38) s2 (s1.shows (by rw [sizeLine_eq]; unfold wt; simp only [List.map_cons, List.map_nil, List.sum_cons, List.sum_nil]; omega) (by omega)) (hR _ ?_)
  exact (g2.trans g3 (fun _ _ h => h)).trans .push (fun _ _ h => h)
theorem frm_eq {t : Str} (hP : StrP okP 9999 t) (hR : ∀ u2, Fr w u2 [] → Q (.bl true) u2) : wp (callF T (n + 4) ("framed", none) [.str t] []) (fun a w' => wp (callF T (n + 4) ("_law_frame", none) [.str t] []) (fun a_1 w' => wp (callF T (n + 4) ("_law_equal", none) [a, a_1] []) Q NoE w') NoE w') NoE w := by
  have lt : ∀ c ∈ cs (frS t), c < 0x110000 := fun c hc => by
    have := okC_iff.mp ((frS_sg hP).al c hc)
    omega
  have fS : StrG 10004 (frS t) := ⟨Nat.le_trans (frS_sg hP).le (by have := hP.le; omega), lt⟩
  refine framed_ok (n := n + 2) hP fun u2 g2 => ?_
  refine frame_ok (n := n + 3) hP.le ?_
  exact equal_ok (n := n + 3) (d := .str (frS t)) rfl rfl (str_shaped lt) ((sm_str fS).shows (by rw [sizeLine_eq]; decide) (by omega)) (hR u2 g2)
theorem cut_right_ok {ts : List Str} {r : Nat} {turn : Int} (h : Txs5 ts) (hr : w[r]? = some (.lst (ts.map MV.str))) (hb : Box w b K) (hbr : b ≠ r) (hK : K + 3000 < 2 ^ 36)
    (q : ∀ w', Fr w w' [b] → Box w' b (K + 10) → Q (.bl true) w') : wp (callF T (n + 5) ("_law_cut_right", none) [.ref b, .ref r, .int turn] []) Q NoE w := by
  refine wp_call (d := d__law_cut_right) (as := [.ref b, .ref r, .int turn]) rfl rfl ?_
  unfold d__law_cut_right
  have hbl := hb.lt
  rw [xw_cons]
  simp only [startS, List.map_cons, List.map_nil, List.length_cons, List.length_nil, Nat.reduceAdd, Nat.reduceSub, List.replicate_succ, List.replicate_zero, List.cons_append, List.nil_append, List.append_nil, xw_cons, xw_nil, mEqs, xw_bnd, wp_bnd, wp_ret, xw_ret, wp_var, List.getElem?_cons_zero, List.getElem?_cons_succ, Ds.at, wp_if, opEqs, wp_ite, if_true, fn_eq, List.zip_nil_left, List.zip_cons_cons, Bool.false_eq_true, if_false, setAll, List.set_cons_zero, List.set_cons_succ, sl 2 (by decide), joinChk, wp_itmL hr]
  refine row_ok (n := n + 3) (i := 4) (S := [some (.ref b), some (.ref r), some (.int turn), none, none, none, none, none, none]) h hr (by simp) fun w1 f1 => ?_
  obtain ⟨RS, hRS⟩ : ∃ RS : Str, RS = Txt.join "" (ts.map frS) := ⟨_, rfl⟩
  have rowC : cs RS = rowL (css ts) := by rw [hRS]; exact cs_row ts
  have rowP : StrP okP 10630 RS := by rw [hRS]; exact h.row
  have rowN : RS.length = tot (css ts) := by rw [← cs_len, rowC, rowL_len _ h.len]
  rw [← hRS]
  have hr1 := f1.at hr (by simp)
  refine ends_ok (n := n + 3) hr1 (by have := h.ln; omega) (fun t ht => (h.al t ht).le) fun e w2 he f2 hE => ?_
  have htot := h.tot
  have cl : (css ts).length = ts.length := by unfold css; rw [List.length_map]
  have f12 := f1.trans f2 (fun _ _ h => h)
  have l1 := f1.le
  have b2 := hb.fr f12 (by simp) (Nat.le_refl K)
  try simp only [startS, List.map_cons, List.map_nil, List.length_cons, List.length_nil, Nat.reduceAdd, Nat.reduceSub, List.replicate_succ, List.replicate_zero, List.cons_append, List.nil_append, List.append_nil, xw_cons, xw_nil, mEqs, xw_bnd, wp_bnd, wp_ret, xw_ret, wp_var, List.getElem?_cons_zero, List.getElem?_cons_succ, Ds.at, wp_if, opEqs, wp_ite, if_true, fn_eq, List.zip_nil_left, List.zip_cons_cons, Bool.false_eq_true, if_false, setAll, List.set_cons_zero, List.set_cons_succ]
  refine cuts_ok (n := n + 2) (ts := css ts) hE (by rw [cl]; exact h.ln) (by omega) b2 (by omega) (by omega) fun l rc w3 hrc hlb hll f3 b3 hC => ?_
  have f23 : Fr w w3 [b] := (f12.sub (ms := [b]) (fun _ _ z => by cases z)).trans f3 (fun _ _ h => h)
  have l2 := f2.le
  have hb2 : b < w2.length := b2.lt
  have hr3 : w3[r]? = some (.lst (ts.map MV.str)) := f23.at hr (by rw [List.mem_singleton]; exact Ne.symm hbr)
  have hE3 : w3[e]? = some (.lst (nts (endsF 0 (css ts)))) := f3.at hE (by rw [List.mem_singleton]; omega)
  have fin : ∀ {u : Wd}, Fr w3 u [] → Q (.bl true) u := fun {u} f => q u (f23.trans f (fun _ _ z => by cases z)) (b3.fr f (by simp) (Nat.le_refl _))
  rw [wp_itmL hC]
  refine wp_for (fun i S u => (∃ x3 x7 x8, S = [some (.ref b), some (.ref r), some (.int turn), x3, none, some (.str RS), some (.ref e), x7, x8]) ∧ Fr w3 u []) _ 0 _ _ (Nat.zero_add _) ⟨⟨_, _, _, rfl⟩, .refl⟩ (fun i S u hi ⟨⟨x3, x7, x8, hS⟩, fu⟩ => ?_) (fun S u ⟨⟨x3, x7, x8, hS⟩, fu⟩ => ?_)
  · have hi' : i < l.length := by
      have : i < (its l).length := hi
      unfold its at this
      rwa [List.length_map] at this
    have hCu := fu.at hC (by simp)
    obtain ⟨x, hx⟩ : ∃ x, l[i]? = some x := ⟨_, List.getElem?_eq_getElem hi'⟩
    obtain ⟨hx0, hx1⟩ := hlb x (List.mem_of_getElem? hx)
    refine ⟨.int x, ?_, ?_⟩
    · show (match u[rc]? with
        | some (.lst xs) => if xs.length = (its l).length then xs[i]? else none
        | some (.rdl xs) => if xs.length = (its l).length then xs[i]? else none
        | _ => none) = _
      rw [hCu]
      dsimp only
      rw [if_pos rfl]
      unfold its
      rw [List.getElem?_map, hx]
      rfl
    · subst hS
      obtain ⟨c, rfl⟩ : ∃ c : Nat, x = c := ⟨x.toNat, by omega⟩
      have hEu := fu.at hE3 (by simp)
      have hru := fu.at hr3 (by simp)
      have nE : (nts (endsF 0 (css ts))).length = ts.length + 1 := by unfold nts; rw [List.length_map, endsF_len, cl]
      have l6 := h.ln
      simp only [startS, List.map_cons, List.map_nil, List.length_cons, List.length_nil, Nat.reduceAdd, Nat.reduceSub, List.replicate_succ, List.replicate_zero, List.cons_append, List.nil_append, List.append_nil, xw_cons, xw_nil, mEqs, xw_bnd, wp_bnd, wp_ret, xw_ret, wp_var, List.getElem?_cons_zero, List.getElem?_cons_succ, Ds.at, wp_if, opEqs, wp_ite, if_true, fn_eq, List.zip_nil_left, List.zip_cons_cons, Bool.false_eq_true, if_false, setAll, List.set_cons_zero, List.set_cons_succ, wp_itmL hEu]
      refine wp_compInts hEu (fun v => match v with | .int z => if decide (z ≤ (c : Int)) = true then some (.int z) else none | _ => none) (by rw [nE, sizeLine_eq]; omega) (fun y hy cc R rr => ?_) ?_
      · obtain ⟨z, hz, rfl⟩ := List.mem_map.mp hy
        simp only [startS, List.map_cons, List.map_nil, List.length_cons, List.length_nil, Nat.reduceAdd, Nat.reduceSub, List.replicate_succ, List.replicate_zero, List.cons_append, List.nil_append, List.append_nil, xw_cons, xw_nil, mEqs, xw_bnd, wp_bnd, wp_ret, xw_ret, wp_var, List.getElem?_cons_zero, List.getElem?_cons_succ, Ds.at, wp_if, opEqs, wp_ite, if_true, fn_eq, List.zip_nil_left, List.zip_cons_cons, Bool.false_eq_true, if_false, setAll, List.set_cons_zero, List.set_cons_succ]
        dsimp only at rr
        cases hd : decide ((z : Int) ≤ (c : Int)) with
        | true =>
          rw [hd, if_pos rfl] at rr
          simp only [startS, List.map_cons, List.map_nil, List.length_cons, List.length_nil, Nat.reduceAdd, Nat.reduceSub, List.replicate_succ, List.replicate_zero, List.cons_append, List.nil_append, List.append_nil, xw_cons, xw_nil, mEqs, xw_bnd, wp_bnd, wp_ret, xw_ret, wp_var, List.getElem?_cons_zero, List.getElem?_cons_succ, Ds.at, wp_if, opEqs, wp_ite, if_true, fn_eq, List.zip_nil_left, List.zip_cons_cons, Bool.false_eq_true, if_false, setAll, List.set_cons_zero, List.set_cons_succ]
          exact rr
        | false =>
          rw [hd, if_neg Bool.false_ne_true] at rr
          simp only [startS, List.map_cons, List.map_nil, List.length_cons, List.length_nil, Nat.reduceAdd, Nat.reduceSub, List.replicate_succ, List.replicate_zero, List.cons_append, List.nil_append, List.append_nil, xw_cons, xw_nil, mEqs, xw_bnd, wp_bnd, wp_ret, xw_ret, wp_var, List.getElem?_cons_zero, List.getElem?_cons_succ, Ds.at, wp_if, opEqs, wp_ite, if_true, fn_eq, List.zip_nil_left, List.zip_cons_cons, Bool.false_eq_true, if_false, setAll, List.set_cons_zero, List.set_cons_succ]
          exact rr
      · rw [nts_le]
        have hrd := rd_cut h.len c
        obtain ⟨m, hm⟩ : ∃ m, m = ((endsF 0 (css ts)).filter fun y => decide (y ≤ c)).length := ⟨_, rfl⟩
        have hm1 : 1 ≤ m := by
          rw [hm]
          refine List.length_pos_of_mem (a := 0) ?_
          rw [List.mem_filter]
          refine ⟨?_, decide_eq_true (Nat.zero_le _)⟩
          cases css ts <;> simp [endsF]
        have hm2 : m ≤ ts.length + 1 := by
          rw [hm, ← cl, ← endsF_len (css ts) 0]
          exact List.length_filter_le _ _
        rw [← hm] at hrd
        have hml : (nts ((endsF 0 (css ts)).filter fun y => decide (y ≤ c))).length = m := by unfold nts; rw [List.length_map, hm]
        rw [wp_lenL at_push, hml]
        have em : (m : Int) - 1 = ((m - 1 : Nat) : Int) := by omega
        have fu1 : Fr u (u ++ [Cell.lst (nts ((endsF 0 (css ts)).filter fun y => decide (y ≤ c)))]) [] := .push
        have hru1 := fu1.at hru (by simp)
        have hEu1 := fu1.at hEu (by simp)
        generalize (u ++ [Cell.lst (nts ((endsF 0 (css ts)).filter fun y => decide (y ≤ c)))]) = u1 at fu1 hru1 hEu1
        simp only [startS, List.map_cons, List.map_nil, List.length_cons, List.length_nil, Nat.reduceAdd, Nat.reduceSub, List.replicate_succ, List.replicate_zero, List.cons_append, List.nil_append, List.append_nil, xw_cons, xw_nil, mEqs, xw_bnd, wp_bnd, wp_ret, xw_ret, wp_var, List.getElem?_cons_zero, List.getElem?_cons_succ, Ds.at, wp_if, opEqs, wp_ite, if_true, fn_eq, List.zip_nil_left, List.zip_cons_cons, Bool.false_eq_true, if_false, setAll, List.set_cons_zero, List.set_cons_succ, em, part_n, part_i, wp_slcS]
        refine ⟨sl _ (by have := rowP.le; omega), ?_⟩
        rw [wp_slcL hru1]
        have hEu2 := at_ap (c := Cell.lst (cutL (ts.map MV.str) none (some ((m - 1 : Nat) : Int)))) hEu1
        obtain ⟨y, hy⟩ : ∃ y, (endsF 0 (css ts))[m - 1]? = some y := ⟨_, List.getElem?_eq_getElem (by rw [endsF_len, cl]; omega)⟩
        have hya : atI (nts (endsF 0 (css ts))) ((m - 1 : Nat) : Int) = some (.int (y : Int)) := by
          obtain ⟨v, e1, e2⟩ := atI_nat (xs := nts (endsF 0 (css ts))) (k := ((m - 1 : Nat) : Int)) (by omega) (by rw [nE]; omega)
          rw [e1]
          have : (((m - 1 : Nat) : Int)).toNat = m - 1 := Int.toNat_natCast _
          rw [this] at e2
          unfold nts at e2
          rw [List.getElem?_map, hy] at e2
          exact e2.symm
        simp only [sl 2 (by decide), startS, List.map_cons, List.map_nil, List.length_cons, List.length_nil, Nat.reduceAdd, Nat.reduceSub, List.replicate_succ, List.replicate_zero, List.cons_append, List.nil_append, List.append_nil, xw_cons, xw_nil, mEqs, xw_bnd, wp_bnd, wp_ret, xw_ret, wp_var, List.getElem?_cons_zero, List.getElem?_cons_succ, Ds.at, wp_if, opEqs, wp_ite, if_true, fn_eq, List.zip_nil_left, List.zip_cons_cons, Bool.false_eq_true, if_false, setAll, List.set_cons_zero, List.set_cons_succ]
        rw [wp_idxL hEu2 hya]
        have hcs : cs (cutS RS none (some (c : Int))) = (rowL (css ts)).take c := by rw [cs_cut, cutL_pre, rowC]
        have hgy : (endsF 0 (css ts)).getD (m - 1) 0 = y := by
          rw [List.getD_eq_getElem?_getD, hy]
          rfl
        rw [hgy] at hrd
        have hP : StrP okP 100000 (cutS RS none (some (c : Int))) := (rowP.cut none (some (c : Int))).mono (by decide)
        have hD : (u1 ++ [Cell.lst (cutL (ts.map MV.str) none (some ((m - 1 : Nat) : Int)))])[u1.length]? = some (.lst (stv (rd (cs (cutS RS none (some (c : Int))))).1)) := by
          rw [at_push, hcs, hrd, cutL_pre]
          have : stv ((css ts).take (m - 1)) = (stv (css ts)).take (m - 1) := by unfold stv; rw [List.map_take]
          dsimp only
          rw [this, stv_css]
        have e2 : (rd (cs (cutS RS none (some (c : Int))))).2 = y := by rw [hcs, hrd]
        have told := told_ok (n := n + 1) (turn := turn) (Q := fun v w' => v = .bl true ∧ Fr w3 w' []) (E := NoE) hP hD fun w' f => ⟨rfl, ((fu.trans fu1 (fun _ _ h => h)).trans .push (fun _ _ h => h)).trans f (fun _ _ h => h)⟩
        rw [e2] at told
        refine wp_mono told (fun v w' ⟨hv, hf⟩ => ?_) (fun _ _ z => z.elim)
        subst hv
        simp only [startS, List.map_cons, List.map_nil, List.length_cons, List.length_nil, Nat.reduceAdd, Nat.reduceSub, List.replicate_succ, List.replicate_zero, List.cons_append, List.nil_append, List.append_nil, xw_cons, xw_nil, mEqs, xw_bnd, wp_bnd, wp_ret, xw_ret, wp_var, List.getElem?_cons_zero, List.getElem?_cons_succ, Ds.at, wp_if, opEqs, wp_ite, if_true, fn_eq, List.zip_nil_left, List.zip_cons_cons, Bool.false_eq_true, if_false, setAll, List.set_cons_zero, List.set_cons_succ, Bool.not_true]
        exact ⟨⟨_, _, _, rfl⟩, hf⟩
  · subst hS
    have hCu := fu.at hC (by simp)
    have hru := fu.at hr3 (by simp)
    refine ⟨?_, ?_⟩
    · show (match u[rc]? with
        | some (.lst xs) => xs.length == (its l).length
        | some (.rdl xs) => xs.length == (its l).length
        | _ => false) = true
      rw [hCu]
      simp
    · simp only [startS, List.map_cons, List.map_nil, List.length_cons, List.length_nil, Nat.reduceAdd, Nat.reduceSub, List.replicate_succ, List.replicate_zero, List.cons_append, List.nil_append, List.append_nil, xw_cons, xw_nil, mEqs, xw_bnd, wp_bnd, wp_ret, xw_ret, wp_var, List.getElem?_cons_zero, List.getElem?_cons_succ, Ds.at, wp_if, opEqs, wp_ite, if_true, fn_eq, List.zip_nil_left, List.zip_cons_cons, Bool.false_eq_true, if_false, setAll, List.set_cons_zero, List.set_cons_succ, wp_itmL hru]
      have hl6 := h.ln
      have nT : (ts.map MV.str).length = ts.length := List.length_map _
      refine wp_for (fun i S u => (∃ x3 x4 x7 x8, S = [some (.ref b), some (.ref r), some (.int turn), x3, x4, some (.str RS), some (.ref e), x7, x8]) ∧ Fr w3 u []) _ 0 _ _ (Nat.zero_add _) ⟨⟨_, _, _, _, rfl⟩, fu⟩ (fun i S u hi ⟨⟨x3, x4, x7, x8, hS⟩, fu⟩ => ?_) (fun S u ⟨⟨x3, x4, x7, x8, hS⟩, fu⟩ => ?_)
      · have hi' : i < ts.length := by rw [← nT]; exact hi
        have hru := fu.at hr3 (by simp)
        obtain ⟨t, ht⟩ : ∃ t, ts[i]? = some t := ⟨_, List.getElem?_eq_getElem hi'⟩
        have htm := List.mem_of_getElem? ht
        have hP := h.al t htm
        refine ⟨.str t, ?_, ?_⟩
        · show (match u[r]? with
            | some (.lst xs) => if xs.length = (ts.map MV.str).length then xs[i]? else none
            | some (.rdl xs) => if xs.length = (ts.map MV.str).length then xs[i]? else none
            | _ => none) = _
          rw [hru]
          dsimp only
          rw [if_pos rfl, List.getElem?_map, ht]
          rfl
        · subst hS
          simp only [startS, List.map_cons, List.map_nil, List.length_cons, List.length_nil, Nat.reduceAdd, Nat.reduceSub, List.replicate_succ, List.replicate_zero, List.cons_append, List.nil_append, List.append_nil, xw_cons, xw_nil, mEqs, xw_bnd, wp_bnd, wp_ret, xw_ret, wp_var, List.getElem?_cons_zero, List.getElem?_cons_succ, Ds.at, wp_if, opEqs, wp_ite, if_true, fn_eq, List.zip_nil_left, List.zip_cons_cons, Bool.false_eq_true, if_false, setAll, List.set_cons_zero, List.set_cons_succ, wp_eqI, sl 1 (by decide), sl 2 (by decide)]
          have kw : callF T (n + 4) ("framed", none) [] [("text", .str t)] = callF T (n + 4) ("framed", none) [.str t] [] := call_kw (d := d_framed) (as := [.str t]) rfl rfl rfl
          try rw [kw]
          have last : ∀ {u1 : Wd}, Fr w3 u1 [] → (∃ x3_1 x4 x7_1 x8_1, [some (MV.ref b), some (MV.ref r), some (MV.int turn), x3, some (MV.str t), some (MV.str RS), some (MV.ref e), x7, x8] = [some (MV.ref b), some (MV.ref r), some (MV.int turn), x3_1, x4, some (MV.str RS), some (MV.ref e), x7_1, x8_1]) ∧ Fr w3 u1 [] := fun g => ⟨⟨_, _, _, _, rfl⟩, g⟩
          split
          all_goals
            refine frm_eq hP fun u2 g2 => ?_
            simp only [startS, List.map_cons, List.map_nil, List.length_cons, List.length_nil, Nat.reduceAdd, Nat.reduceSub, List.replicate_succ, List.replicate_zero, List.cons_append, List.nil_append, List.append_nil, xw_cons, xw_nil, mEqs, xw_bnd, wp_bnd, wp_ret, xw_ret, wp_var, List.getElem?_cons_zero, List.getElem?_cons_succ, Ds.at, wp_if, opEqs, wp_ite, if_true, fn_eq, List.zip_nil_left, List.zip_cons_cons, Bool.false_eq_true, if_false, setAll, List.set_cons_zero, List.set_cons_succ, Bool.not_true]
            refine one_ok hP fun u3 g3 => ?_
            try simp only [startS, List.map_cons, List.map_nil, List.length_cons, List.length_nil, Nat.reduceAdd, Nat.reduceSub, List.replicate_succ, List.replicate_zero, List.cons_append, List.nil_append, List.append_nil, xw_cons, xw_nil, mEqs, xw_bnd, wp_bnd, wp_ret, xw_ret, wp_var, List.getElem?_cons_zero, List.getElem?_cons_succ, Ds.at, wp_if, opEqs, wp_ite, if_true, fn_eq, List.zip_nil_left, List.zip_cons_cons, Bool.false_eq_true, if_false, setAll, List.set_cons_zero, List.set_cons_succ, Bool.not_true]
            exact last ((fu.trans g2 (fun _ _ h => h)).trans g3 (fun _ _ h => h))
      · subst hS
        have hru := fu.at hr3 (by simp)
        refine ⟨?_, ?_⟩
        · show (match u[r]? with
            | some (.lst xs) => xs.length == (ts.map MV.str).length
            | some (.rdl xs) => xs.length == (ts.map MV.str).length
            | _ => false) = true
          rw [hru]
          simp
        · have hrd := rd_row h.len
          have e1 : ∀ j : Int, wp (binM .Sub (.int 1) (.int j)) = fun (R : MV → Wd → Prop) (E : Exn → Wd → Prop) u => R (.int (1 - j)) u := fun j => rfl
          simp only [startS, List.map_cons, List.map_nil, List.length_cons, List.length_nil, Nat.reduceAdd, Nat.reduceSub, List.replicate_succ, List.replicate_zero, List.cons_append, List.nil_append, List.append_nil, xw_cons, xw_nil, mEqs, xw_bnd, wp_bnd, wp_ret, xw_ret, wp_var, List.getElem?_cons_zero, List.getElem?_cons_succ, Ds.at, wp_if, opEqs, wp_ite, if_true, fn_eq, List.zip_nil_left, List.zip_cons_cons, Bool.false_eq_true, if_false, setAll, List.set_cons_zero, List.set_cons_succ, wp_lenS]
          have hD : u[r]? = some (.lst (stv (rd (cs RS)).1)) := by
            rw [rowC, hrd, hru]
            dsimp only
            rw [stv_css]
          have e2 : (rd (cs RS)).2 = RS.length := by rw [rowC, hrd, ← rowC, cs_len]
          have told := told_ok (n := n + 1) (turn := 1 - turn) (Q := Q) (E := NoE) (rowP.mono (by decide)) hD fun w' f => fin (fu.trans f (fun _ _ h => h))
          rw [e2] at told
          exact ⟨sl _ (by have := rowP.le; omega), told⟩
end
end K05
set_option Elab.async false
set_option linter.all false
set_option maxRecDepth 100000
set_option maxHeartbeats 4000000
namespace K05
open PySem Mir L2 TL
section
variable {n b K : Nat} {w : Wd} {v : MV} {k : Kd} {Q : MV → Wd → Prop}
theorem xw_seq {c : Calls} {cur : Option Exn} {s : Sx} {r : List Sx} {S : Mir.Env} {D : Ds} (I : Mir.Env → Wd → Prop) (h1 : xw (exe c cur s S) { D with nx := I } w) (h2 : ∀ S' w', I S' w' → xw (exeL c cur r S') D w') : xw (exeL c cur (s :: r) S) D w := by
  rw [xw_cons]
  refine wp_mono h1 (fun f w' h => ?_) (fun _ _ h => h)
  cases f <;> first | exact h2 _ _ h | exact h
theorem nts_at {L : List Nat} {i : Int} (h0 : 0 ≤ i) (h1 : i < L.length) : ∃ x : Nat, x ∈ L ∧ atI (nts L) i = some (.int (x : Int)) := by
  obtain ⟨v, e1, e2⟩ := atI_nat (xs := nts L) (k := i) h0 (by unfold nts; rw [List.length_map]; exact h1)
  unfold nts at e2
  rw [List.getElem?_map] at e2
  obtain ⟨x, hx⟩ : ∃ x, L[i.toNat]? = some x := ⟨_, List.getElem?_eq_getElem (by omega)⟩
  rw [hx] at e2
  exact ⟨x, List.mem_of_getElem? hx, by rw [e1]; exact e2.symm⟩
theorem spoilt_ok {row : Str} {e : Nat} {L : List Nat} {first : Bool} (hr : StrP okP 10630 row) (hE : w[e]? = some (.lst (nts L))) (hL : 1 ≤ L.length) (hL7 : L.length ≤ 7) (hLv : ∀ x ∈ L, x ≤ 10630) (hb : Box w b K) (hbe : b ≠ e) (hK : K + 100 < 2 ^ 36)
    (q : ∀ s w', StrP okP 60000 s → Fr w w' [b] → Box w' b (K + 10) → Q (.str s) w') : wp (callF T (n + 2) ("_law_spoilt", none) [.ref b, .str row, .ref e, .bl first] []) Q NoE w := by
  refine wp_call (d := d__law_spoilt) (as := [.ref b, .str row, .ref e, .bl first]) rfl rfl ?_
  unfold d__law_spoilt
  have hrl := hr.le
  refine xw_seq (I := fun S u => ∃ (way kind : Int) (sg : Str), S = [some (.ref b), some (.str row), some (.ref e), some (.bl first), some (.int way), some (.int kind), some (.str sg), none, none, none] ∧ 0 ≤ kind ∧ kind < 12 ∧ StrP okP 1 sg ∧ Fr w u [b] ∧ Box u b (K + 3)) ?_ ?_
  · simp only [startS, List.map_cons, List.map_nil, List.length_cons, List.length_nil, Nat.reduceAdd, Nat.reduceSub, List.replicate_succ, List.replicate_zero, List.cons_append, List.nil_append, List.append_nil, xw_cons, xw_nil, mEqs, xw_bnd, wp_bnd, wp_ret, xw_ret, wp_var, List.getElem?_cons_zero, List.getElem?_cons_succ, Ds.at, wp_if, opEqs, wp_ite, if_true, fn_eq, List.zip_nil_left, List.zip_cons_cons, Bool.false_eq_true, if_false, setAll, List.set_cons_zero, List.set_cons_succ, sl 3 (by decide)]
    refine take1 hb (by omega) (by decide) (by decide) fun way w1 y0 y1 f1 b1 => ?_
    refine take1 b1 (by omega) (by decide) (by decide) fun kind w2 k0 k1 f2 b2 => ?_
    refine alph_ok fun A A2 A1 => ?_
    refine take1 b2 (by omega) (by decide) (by decide) fun sg w3 s0 s1 f3 b3 => ?_
    refine wp_idxS (sl _ (by omega)) s0 (by omega) fun sc hsc _ => ?_
    have f123 := (f1.trans f2 (fun _ _ h => h)).trans f3 (fun _ _ h => h)
    have hS : StrP okP 1 ⟨#[sc]⟩ := StrP.one (A2.al _ hsc)
    exact ⟨_, _, _, rfl, k0, k1, hS, f123, b3⟩
  rintro S w3 ⟨way, kind, sg, rfl, k0, k1, hsg, f3, b3⟩
  have hE3 := f3.at hE (by rw [List.mem_singleton]; exact Ne.symm hbe)
  have nL : (nts L).length = L.length := List.length_map _
  obtain ⟨M, hM, M1, M2⟩ : ∃ M : Int, M = (if (L.length : Int) - 1 > 1 then (L.length : Int) - 1 else 1) ∧ 1 ≤ M ∧ M ≤ L.length := ⟨_, rfl, by split <;> omega, by split <;> omega⟩
  refine xw_seq (I := fun S u => ∃ (one at_ spot : Int), S = [some (.ref b), some (.str row), some (.ref e), some (.bl first), some (.int way), some (.int kind), some (.str sg), some (.int one), some (.int at_), some (.int spot)] ∧ 0 ≤ one ∧ one < L.length ∧ Fr w u [b] ∧ Box u b (K + 10)) ?_ ?_
  · simp only [startS, List.map_cons, List.map_nil, List.length_cons, List.length_nil, Nat.reduceAdd, Nat.reduceSub, List.replicate_succ, List.replicate_zero, List.cons_append, List.nil_append, List.append_nil, xw_cons, xw_nil, mEqs, xw_bnd, wp_bnd, wp_ret, xw_ret, wp_var, List.getElem?_cons_zero, List.getElem?_cons_succ, Ds.at, wp_if, opEqs, wp_ite, if_true, fn_eq, List.zip_nil_left, List.zip_cons_cons, Bool.false_eq_true, if_false, setAll, List.set_cons_zero, List.set_cons_succ, wp_lenL hE3, wp_lenS, nL, sl 3 (by decide)]
    refine take1 b3 (by omega) (by rw [← hM]; omega) (by rw [← hM]; omega) fun one w4 o0 o1 f4 b4 => ?_
    refine ⟨sl _ (by omega), ?_⟩
    obtain ⟨R1, hR1⟩ : ∃ R1 : Int, R1 = (row.length : Int) + 1 := ⟨_, rfl⟩
    rw [← hR1]
    refine take1 b4 (by omega) (by omega) (by omega) fun at_ w5 _ _ f5 b5 => ?_
    refine take1 b5 (by omega) (by decide) (by decide) fun spot w6 _ _ f6 b6 => ?_
    exact ⟨_, _, _, rfl, o0, by omega, ((f3.trans f4 (fun _ _ h => h)).trans f5 (fun _ _ h => h)).trans f6 (fun _ _ h => h), b6.mono (by omega)⟩
  rintro S W ⟨one, at_, spot, rfl, o0, o1, fW, bW⟩
  have hEW := fW.at hE (by rw [List.mem_singleton]; exact Ne.symm hbe)
  obtain ⟨x, hx, ax⟩ := nts_at (L := L) o0 o1
  have hx' := hLv x hx
  have fin : ∀ s, StrP okP 60000 s → Q (.str s) W := fun s hs => q s W hs fW bW
  refine xw_seq (I := fun S u => S = [some (.ref b), some (.str row), some (.ref e), some (.bl first), some (.int way), some (.int kind), some (.str sg), some (.int one), some (.int at_), some (.int spot)] ∧ u = W) ?_ ?_
  · simp only [startS, List.map_cons, List.map_nil, List.length_cons, List.length_nil, Nat.reduceAdd, Nat.reduceSub, List.replicate_succ, List.replicate_zero, List.cons_append, List.nil_append, List.append_nil, xw_cons, xw_nil, mEqs, xw_bnd, wp_bnd, wp_ret, xw_ret, wp_var, List.getElem?_cons_zero, List.getElem?_cons_succ, Ds.at, wp_if, opEqs, wp_ite, if_true, fn_eq, List.zip_nil_left, List.zip_cons_cons, Bool.false_eq_true, if_false, setAll, List.set_cons_zero, List.set_cons_succ]
    cases first with
    | false => exact ⟨by trivial, by trivial⟩
    | true =>
      obtain ⟨j, hj, j0, j1⟩ : ∃ j : Int, j = kind % 4 ∧ 0 ≤ j ∧ j < 4 := ⟨kind % 4, rfl, by omega, by omega⟩
      simp only [if_true, part_n, wp_ret]
      rw [wp_idxL hEW ax]
      simp only [part_i, wp_ret, wp_slcS, wp_mod, ← hj]
      refine ⟨sl _ (by omega), by decide, ?_⟩
      refine wp_idxS (sl _ (by decide +kernel)) j0 (by have : ("+ -_" : Str).length = 4 := by decide +kernel
                                                       omega) fun sc hsc _ => ?_
      have pS : StrP okP 1 ⟨#[sc]⟩ := StrP.one ((show StrP okP 4 ("+ -_" : Str) from StrP.of (by decide +kernel)).al _ hsc)
      have p1 := (hr.cut none (some (x : Int))).append pS
      have p2 := p1.append (hr.cut (some ((x : Int) + 1)) none)
      have lS := pS.le
      have lx := (hr.cut none (some (x : Int))).le
      have ly := (hr.cut (some ((x : Int) + 1)) none).le
      simp only [wp_addS, ap_len]
      refine ⟨sl _ (by omega), ?_⟩
      rw [wp_idxL hEW ax]
      simp only [part_i, part_n, opEqs, wp_ret, wp_slcS, wp_addS, ap_len]
      exact ⟨sl _ (by omega), sl _ (by omega), fin _ (p2.mono (by decide))⟩
  rintro S u ⟨rfl, rfl⟩
  refine xw_seq (I := fun S v => ∃ (at_ : Int), S = [some (.ref b), some (.str row), some (.ref e), some (.bl first), some (.int way), some (.int kind), some (.str sg), some (.int one), some (.int at_), some (.int spot)] ∧ v = u) ?_ ?_
  · simp only [startS, List.map_cons, List.map_nil, List.length_cons, List.length_nil, Nat.reduceAdd, Nat.reduceSub, List.replicate_succ, List.replicate_zero, List.cons_append, List.nil_append, List.append_nil, xw_cons, xw_nil, mEqs, xw_bnd, wp_bnd, wp_ret, xw_ret, wp_var, List.getElem?_cons_zero, List.getElem?_cons_succ, Ds.at, wp_if, opEqs, wp_ite, if_true, fn_eq, List.zip_nil_left, List.zip_cons_cons, Bool.false_eq_true, if_false, setAll, List.set_cons_zero, List.set_cons_succ]
    split
    · rw [wp_idxL hEW ax]
      simp only [startS, List.map_cons, List.map_nil, List.length_cons, List.length_nil, Nat.reduceAdd, Nat.reduceSub, List.replicate_succ, List.replicate_zero, List.cons_append, List.nil_append, List.append_nil, xw_cons, xw_nil, mEqs, xw_bnd, wp_bnd, wp_ret, xw_ret, wp_var, List.getElem?_cons_zero, List.getElem?_cons_succ, Ds.at, wp_if, opEqs, wp_ite, if_true, fn_eq, List.zip_nil_left, List.zip_cons_cons, Bool.false_eq_true, if_false, setAll, List.set_cons_zero, List.set_cons_succ]
      exact ⟨_, rfl, by trivial⟩
    · exact ⟨_, rfl, by trivial⟩
  rintro S v ⟨at_, rfl, rfl⟩
  refine xw_seq (I := fun S u => ∃ (at_ : Int), S = [some (.ref b), some (.str row), some (.ref e), some (.bl first), some (.int way), some (.int kind), some (.str sg), some (.int one), some (.int at_), some (.int spot)] ∧ u = v) ?_ ?_
  · simp only [startS, List.map_cons, List.map_nil, List.length_cons, List.length_nil, Nat.reduceAdd, Nat.reduceSub, List.replicate_succ, List.replicate_zero, List.cons_append, List.nil_append, List.append_nil, xw_cons, xw_nil, mEqs, xw_bnd, wp_bnd, wp_ret, xw_ret, wp_var, List.getElem?_cons_zero, List.getElem?_cons_succ, Ds.at, wp_if, opEqs, wp_ite, if_true, fn_eq, List.zip_nil_left, List.zip_cons_cons, Bool.false_eq_true, if_false, setAll, List.set_cons_zero, List.set_cons_succ, wp_lenL hEW, nL, wp_eqI]
    split
    · obtain ⟨j, hj, j0, j1⟩ : ∃ j : Int, j = (if (L.length : Int) - 1 < one + 1 then (L.length : Int) - 1 else one + 1) ∧ 0 ≤ j ∧ j < L.length := ⟨_, rfl, by split <;> omega, by split <;> omega⟩
      obtain ⟨y, hy, ay⟩ := nts_at (L := L) j0 j1
      rw [← hj, wp_idxL hEW ay]
      simp only [startS, List.map_cons, List.map_nil, List.length_cons, List.length_nil, Nat.reduceAdd, Nat.reduceSub, List.replicate_succ, List.replicate_zero, List.cons_append, List.nil_append, List.append_nil, xw_cons, xw_nil, mEqs, xw_bnd, wp_bnd, wp_ret, xw_ret, wp_var, List.getElem?_cons_zero, List.getElem?_cons_succ, Ds.at, wp_if, opEqs, wp_ite, if_true, fn_eq, List.zip_nil_left, List.zip_cons_cons, Bool.false_eq_true, if_false, setAll, List.set_cons_zero, List.set_cons_succ]
      exact ⟨_, rfl, by trivial⟩
    · exact ⟨_, rfl, by trivial⟩
  rintro S u ⟨at_, rfl, rfl⟩
  refine xw_seq (I := fun S v => ∃ (sg : Str), S = [some (.ref b), some (.str row), some (.ref e), some (.bl first), some (.int way), some (.int kind), some (.str sg), some (.int one), some (.int at_), some (.int spot)] ∧ StrP okP 1 sg ∧ v = u) ?_ ?_
  · simp only [startS, List.map_cons, List.map_nil, List.length_cons, List.length_nil, Nat.reduceAdd, Nat.reduceSub, List.replicate_succ, List.replicate_zero, List.cons_append, List.nil_append, List.append_nil, xw_cons, xw_nil, mEqs, xw_bnd, wp_bnd, wp_ret, xw_ret, wp_var, List.getElem?_cons_zero, List.getElem?_cons_succ, Ds.at, wp_if, opEqs, wp_ite, if_true, fn_eq, List.zip_nil_left, List.zip_cons_cons, Bool.false_eq_true, if_false, setAll, List.set_cons_zero, List.set_cons_succ]
    split
    · refine wp_idxS (sl _ (by decide +kernel)) k0 (by have : ("+- _.0123" : Str).length = 9 := by decide +kernel
                                                       have : kind < 9 := by have := ‹decide (kind < 9) = true›; simpa using this
                                                       omega) fun sc hsc _ => ?_
      exact ⟨_, rfl, StrP.one ((show StrP okP 9 ("+- _.0123" : Str) from StrP.of (by decide +kernel)).al _ hsc), by trivial⟩
    · exact ⟨_, rfl, hsg, by trivial⟩
  rintro S v ⟨sg, rfl, hsg, rfl⟩
  have c1 := hr.cut none (some at_)
  have c2 := hr.cut (some at_) none
  have c3 := hr.cut (some (at_ + 1)) none
  have c4 := hr.cut (some (at_ + 1)) (some (at_ + 2))
  have c5 := hr.cut (some at_) (some (at_ + 1))
  have c6 := hr.cut (some (at_ + 2)) none
  simp only [startS, List.map_cons, List.map_nil, List.length_cons, List.length_nil, Nat.reduceAdd, Nat.reduceSub, List.replicate_succ, List.replicate_zero, List.cons_append, List.nil_append, List.append_nil, xw_cons, xw_nil, mEqs, xw_bnd, wp_bnd, wp_ret, xw_ret, wp_var, List.getElem?_cons_zero, List.getElem?_cons_succ, Ds.at, wp_if, opEqs, wp_ite, if_true, fn_eq, List.zip_nil_left, List.zip_cons_cons, Bool.false_eq_true, if_false, setAll, List.set_cons_zero, List.set_cons_succ, wp_eqI, part_i, part_n, wp_slcS, wp_addS]
  have l1 := c1.le
  have l2 := c2.le
  have l3 := c3.le
  have l4 := c4.le
  have l5 := c5.le
  have l6 := c6.le
  have lg := hsg.le
  simp only [ap_len]
  split
  · exact ⟨sl _ (by omega), sl _ (by omega), sl _ (by omega), sl _ (by omega), fin _ (((c1.append hsg).append c2).mono (by decide))⟩
  split
  · exact ⟨sl _ (by omega), sl _ (by omega), sl _ (by omega), fin _ ((c1.append c3).mono (by decide))⟩
  split
  · exact ⟨sl _ (by omega), sl _ (by omega), sl _ (by omega), sl _ (by omega), sl _ (by omega), sl _ (by omega), sl _ (by omega), fin _ ((((c1.append c4).append c5).append c6).mono (by decide))⟩
  · exact ⟨sl _ (by omega), sl _ (by omega), sl _ (by omega), sl _ (by omega), fin _ (((c1.append hsg).append c3).mono (by decide))⟩
end
end K05
set_option Elab.async false
set_option linter.all false
set_option maxRecDepth 100000
set_option maxHeartbeats 4000000
namespace K05
open PySem Mir L2 TL
section
variable {n b K : Nat} {w : Wd} {v : MV} {k : Kd} {Q : MV → Wd → Prop}
/-- an own reader's answer, and the program's -/
theorem rt_ok {s : Str} {turn : Int} (h : StrP okP 100000 s) (q : ∀ w', Fr w w' [] → Q (.bl true) w') : wp (callF T (n + 4) ("_law_read", none) [.str s] []) (fun a w' => wp (callF T (n + 4) ("_law_told", none) [.str s, a, .int turn] []) Q NoE w') NoE w := by
  refine read_ok (n := n + 3) (h.mono (by decide)) fun d u hd f hr => ?_
  exact told_ok (n := n + 1) h hr fun w' g => q w' (f.trans g (fun _ _ h => h))
theorem endsL {ts : List Str} (h : Txs5 ts) : 1 ≤ (endsF 0 (css ts)).length ∧ (endsF 0 (css ts)).length ≤ 7 ∧ ∀ x ∈ endsF 0 (css ts), x ≤ 10630 := by
  have := h.ln
  have ht := h.tot
  rw [endsF_len]
  unfold css
  rw [List.length_map]
  refine ⟨by omega, by omega, fun x hx => ?_⟩
  have := endsF_le _ _ x hx
  unfold css at ht
  omega
theorem spoilt_right_ok {ts : List Str} {r : Nat} {turn : Int} (h : Txs5 ts) (hr : w[r]? = some (.lst (ts.map MV.str))) (hb : Box w b K) (hbr : b ≠ r) (hK : K + 3000 < 2 ^ 36)
    (q : ∀ w', Fr w w' [b] → Box w' b (K + 200) → Q (.bl true) w') : wp (callF T (n + 5) ("_law_spoilt_right", none) [.ref b, .ref r, .int turn] []) Q NoE w := by
  refine wp_call (d := d__law_spoilt_right) (as := [.ref b, .ref r, .int turn]) rfl rfl ?_
  unfold d__law_spoilt_right
  have hbl := hb.lt
  obtain ⟨RS, hRS⟩ : ∃ RS : Str, RS = Txt.join "" (ts.map frS) := ⟨_, rfl⟩
  have rowP : StrP okP 10630 RS := by rw [hRS]; exact h.row
  have rle := rowP.le
  obtain ⟨e1, e2, e3⟩ := endsL h
  refine xw_seq (I := fun S u => ∃ e : Nat, S = [some (.ref b), some (.ref r), some (.int turn), none, some (.str RS), some (.ref e), none, none, none] ∧ u[e]? = some (.lst (nts (endsF 0 (css ts)))) ∧ b ≠ e ∧ Fr w u [b] ∧ Box u b K) ?_ ?_
  · simp only [startS, List.map_cons, List.map_nil, List.length_cons, List.length_nil, Nat.reduceAdd, Nat.reduceSub, List.replicate_succ, List.replicate_zero, List.cons_append, List.nil_append, List.append_nil, xw_cons, xw_nil, mEqs, xw_bnd, wp_bnd, wp_ret, xw_ret, wp_var, List.getElem?_cons_zero, List.getElem?_cons_succ, Ds.at, wp_if, opEqs, wp_ite, if_true, fn_eq, List.zip_nil_left, List.zip_cons_cons, Bool.false_eq_true, if_false, setAll, List.set_cons_zero, List.set_cons_succ, sl 2 (by decide), joinChk, wp_itmL hr]
    refine row_ok (n := n + 3) (i := 8) (S := [some (.ref b), some (.ref r), some (.int turn), none, none, none, none, none, none]) h hr (by simp) fun w1 f1 => ?_
    rw [← hRS]
    have hr1 := f1.at hr (by simp)
    refine ends_ok (n := n + 3) hr1 (by have := h.ln; omega) (fun t ht => (h.al t ht).le) fun e w2 he f2 hE => ?_
    have := f1.le
    have f12 := f1.trans f2 (fun _ _ h => h)
    exact ⟨e, rfl, hE, by omega, f12.sub (ms := [b]) (fun _ _ z => by cases z), hb.fr f12 (by simp) (Nat.le_refl K)⟩
  rintro S w1 ⟨e, rfl, hE, hbe, f1, b1⟩
  refine xw_seq (I := fun S u => ∃ x3 x6, S = [some (.ref b), some (.ref r), some (.int turn), x3, some (.str RS), some (.ref e), x6, none, none] ∧ Fr w u [b] ∧ Box u b (K + 80)) ?_ ?_
  · simp only [startS, List.map_cons, List.map_nil, List.length_cons, List.length_nil, Nat.reduceAdd, Nat.reduceSub, List.replicate_succ, List.replicate_zero, List.cons_append, List.nil_append, List.append_nil, xw_cons, xw_nil, mEqs, xw_bnd, wp_bnd, wp_ret, xw_ret, wp_var, List.getElem?_cons_zero, List.getElem?_cons_succ, Ds.at, wp_if, opEqs, wp_ite, if_true, fn_eq, List.zip_nil_left, List.zip_cons_cons, Bool.false_eq_true, if_false, setAll, List.set_cons_zero, List.set_cons_succ, wp_lenS]
    refine ⟨sl _ (by omega), ?_⟩
    split
    all_goals
      rw [wp_rng (by decide) (by decide)]
      refine wp_for (fun i S u => ∃ x3 x6, S = [some (.ref b), some (.ref r), some (.int turn), x3, some (.str RS), some (.ref e), x6, none, none] ∧ u[e]? = some (.lst (nts (endsF 0 (css ts)))) ∧ Fr w u [b] ∧ Box u b (K + 10 * i)) _ 0 _ _ (Nat.zero_add _) ⟨_, _, rfl, hE, f1, b1⟩ (fun i S u hi ⟨x3, x6, hS, hu, fu, bu⟩ => ⟨.int (0 + i), if_pos hi, ?_⟩) (fun S u ⟨x3, x6, hS, hu, fu, bu⟩ => ⟨rfl, _, _, hS, fu, bu.mono (Nat.add_le_add_left (by decide) K)⟩)
      have hi' : i < 8 := Nat.lt_of_lt_of_le hi (by decide)
      subst hS
      try simp only [startS, List.map_cons, List.map_nil, List.length_cons, List.length_nil, Nat.reduceAdd, Nat.reduceSub, List.replicate_succ, List.replicate_zero, List.cons_append, List.nil_append, List.append_nil, xw_cons, xw_nil, mEqs, xw_bnd, wp_bnd, wp_ret, xw_ret, wp_var, List.getElem?_cons_zero, List.getElem?_cons_succ, Ds.at, wp_if, opEqs, wp_ite, if_true, fn_eq, List.zip_nil_left, List.zip_cons_cons, Bool.false_eq_true, if_false, setAll, List.set_cons_zero, List.set_cons_succ, wp_eqI]
      refine spoilt_ok (n := n + 2) rowP hu e1 e2 e3 bu hbe (by omega) fun s u2 hs g2 c2 => ?_
      try simp only [startS, List.map_cons, List.map_nil, List.length_cons, List.length_nil, Nat.reduceAdd, Nat.reduceSub, List.replicate_succ, List.replicate_zero, List.cons_append, List.nil_append, List.append_nil, xw_cons, xw_nil, mEqs, xw_bnd, wp_bnd, wp_ret, xw_ret, wp_var, List.getElem?_cons_zero, List.getElem?_cons_succ, Ds.at, wp_if, opEqs, wp_ite, if_true, fn_eq, List.zip_nil_left, List.zip_cons_cons, Bool.false_eq_true, if_false, setAll, List.set_cons_zero, List.set_cons_succ, wp_mod]
      refine read_ok (n := n + 3) (hs.mono (by decide)) fun d u3 hd g3 hr3 => ?_
      try simp only [startS, List.map_cons, List.map_nil, List.length_cons, List.length_nil, Nat.reduceAdd, Nat.reduceSub, List.replicate_succ, List.replicate_zero, List.cons_append, List.nil_append, List.append_nil, xw_cons, xw_nil, mEqs, xw_bnd, wp_bnd, wp_ret, xw_ret, wp_var, List.getElem?_cons_zero, List.getElem?_cons_succ, Ds.at, wp_if, opEqs, wp_ite, if_true, fn_eq, List.zip_nil_left, List.zip_cons_cons, Bool.false_eq_true, if_false, setAll, List.set_cons_zero, List.set_cons_succ, wp_mod]
      refine ⟨by decide, ?_⟩
      refine told_ok (n := n + 1) (hs.mono (by decide)) hr3 fun u4 g4 => ?_
      have g34 := g3.trans g4 (fun _ _ h => h)
      have g24 := g2.trans (g34.sub (ms := [b]) (fun _ _ z => by cases z)) (fun _ _ h => h)
      try simp only [startS, List.map_cons, List.map_nil, List.length_cons, List.length_nil, Nat.reduceAdd, Nat.reduceSub, List.replicate_succ, List.replicate_zero, List.cons_append, List.nil_append, List.append_nil, xw_cons, xw_nil, mEqs, xw_bnd, wp_bnd, wp_ret, xw_ret, wp_var, List.getElem?_cons_zero, List.getElem?_cons_succ, Ds.at, wp_if, opEqs, wp_ite, if_true, fn_eq, List.zip_nil_left, List.zip_cons_cons, Bool.false_eq_true, if_false, setAll, List.set_cons_zero, List.set_cons_succ, Bool.not_true]
      exact ⟨_, _, rfl, g24.at hu (by rw [List.mem_singleton]; exact Ne.symm hbe), fu.trans g24 (fun _ _ h => h), c2.fr g34 (by simp) (by omega)⟩
  rintro S w2 ⟨x3, x6, rfl, f2, b2⟩
  refine xw_seq (I := fun S u => Fr w u [b] ∧ Box u b (K + 150)) ?_ ?_
  · simp only [startS, List.map_cons, List.map_nil, List.length_cons, List.length_nil, Nat.reduceAdd, Nat.reduceSub, List.replicate_succ, List.replicate_zero, List.cons_append, List.nil_append, List.append_nil, xw_cons, xw_nil, mEqs, xw_bnd, wp_bnd, wp_ret, xw_ret, wp_var, List.getElem?_cons_zero, List.getElem?_cons_succ, Ds.at, wp_if, opEqs, wp_ite, if_true, fn_eq, List.zip_nil_left, List.zip_cons_cons, Bool.false_eq_true, if_false, setAll, List.set_cons_zero, List.set_cons_succ, wp_lenS]
    refine ⟨sl _ (by omega), ?_⟩
    split
    all_goals
      rw [wp_rng (by decide) (by decide)]
      refine wp_for (fun i S u => ∃ x3 x7, S = [some (.ref b), some (.ref r), some (.int turn), x3, some (.str RS), some (.ref e), x6, x7, none] ∧ Fr w u [b] ∧ Box u b (K + 80 + 20 * i)) _ 0 _ _ (Nat.zero_add _) ⟨_, _, rfl, f2, b2⟩ (fun i S u hi ⟨x3, x7, hS, fu, bu⟩ => ⟨.int (0 + i), if_pos hi, ?_⟩) (fun S u ⟨x3, x7, hS, fu, bu⟩ => ⟨rfl, fu, bu.mono (by first | (show K + 80 + 20 * 3 ≤ K + 150; omega) | (show K + 80 + 20 * 1 ≤ K + 150; omega))⟩)
      have hi' : i < 3 := Nat.lt_of_lt_of_le hi (by decide)
      subst hS
      try simp only [startS, List.map_cons, List.map_nil, List.length_cons, List.length_nil, Nat.reduceAdd, Nat.reduceSub, List.replicate_succ, List.replicate_zero, List.cons_append, List.nil_append, List.append_nil, xw_cons, xw_nil, mEqs, xw_bnd, wp_bnd, wp_ret, xw_ret, wp_var, List.getElem?_cons_zero, List.getElem?_cons_succ, Ds.at, wp_if, opEqs, wp_ite, if_true, fn_eq, List.zip_nil_left, List.zip_cons_cons, Bool.false_eq_true, if_false, setAll, List.set_cons_zero, List.set_cons_succ, wp_addS]
      refine text_ok (n := n + 2) bu (by omega) fun t u2 ht g2 c2 => ?_
      try simp only [startS, List.map_cons, List.map_nil, List.length_cons, List.length_nil, Nat.reduceAdd, Nat.reduceSub, List.replicate_succ, List.replicate_zero, List.cons_append, List.nil_append, List.append_nil, xw_cons, xw_nil, mEqs, xw_bnd, wp_bnd, wp_ret, xw_ret, wp_var, List.getElem?_cons_zero, List.getElem?_cons_succ, Ds.at, wp_if, opEqs, wp_ite, if_true, fn_eq, List.zip_nil_left, List.zip_cons_cons, Bool.false_eq_true, if_false, setAll, List.set_cons_zero, List.set_cons_succ, wp_addS, wp_mod]
      have tl := ht.le
      have hs := rowP.append ht
      refine ⟨sl _ (by omega), ?_⟩
      refine read_ok (n := n + 3) (hs.mono (by decide)) fun d u3 hd g3 hr3 => ?_
      try simp only [startS, List.map_cons, List.map_nil, List.length_cons, List.length_nil, Nat.reduceAdd, Nat.reduceSub, List.replicate_succ, List.replicate_zero, List.cons_append, List.nil_append, List.append_nil, xw_cons, xw_nil, mEqs, xw_bnd, wp_bnd, wp_ret, xw_ret, wp_var, List.getElem?_cons_zero, List.getElem?_cons_succ, Ds.at, wp_if, opEqs, wp_ite, if_true, fn_eq, List.zip_nil_left, List.zip_cons_cons, Bool.false_eq_true, if_false, setAll, List.set_cons_zero, List.set_cons_succ, wp_mod]
      refine ⟨by decide, ?_⟩
      refine told_ok (n := n + 1) (hs.mono (by decide)) hr3 fun u4 g4 => ?_
      have g34 := g3.trans g4 (fun _ _ h => h)
      have g24 := g2.trans (g34.sub (ms := [b]) (fun _ _ z => by cases z)) (fun _ _ h => h)
      try simp only [startS, List.map_cons, List.map_nil, List.length_cons, List.length_nil, Nat.reduceAdd, Nat.reduceSub, List.replicate_succ, List.replicate_zero, List.cons_append, List.nil_append, List.append_nil, xw_cons, xw_nil, mEqs, xw_bnd, wp_bnd, wp_ret, xw_ret, wp_var, List.getElem?_cons_zero, List.getElem?_cons_succ, Ds.at, wp_if, opEqs, wp_ite, if_true, fn_eq, List.zip_nil_left, List.zip_cons_cons, Bool.false_eq_true, if_false, setAll, List.set_cons_zero, List.set_cons_succ, Bool.not_true]
      exact ⟨_, _, rfl, fu.trans g24 (fun _ _ h => h), c2.fr g34 (by simp) (by omega)⟩
  rintro S w3 ⟨f3, b3⟩
  simp only [startS, List.map_cons, List.map_nil, List.length_cons, List.length_nil, Nat.reduceAdd, Nat.reduceSub, List.replicate_succ, List.replicate_zero, List.cons_append, List.nil_append, List.append_nil, xw_cons, xw_nil, mEqs, xw_bnd, wp_bnd, wp_ret, xw_ret, wp_var, List.getElem?_cons_zero, List.getElem?_cons_succ, Ds.at, wp_if, opEqs, wp_ite, if_true, fn_eq, List.zip_nil_left, List.zip_cons_cons, Bool.false_eq_true, if_false, setAll, List.set_cons_zero, List.set_cons_succ]
  exact q w3 f3 (b3.mono (by omega))
end
end K05
set_option Elab.async false
set_option linter.all false
set_option maxRecDepth 100000
set_option maxHeartbeats 4000000
namespace K05
open PySem Mir L2 TL
section
variable {n b K : Nat} {w : Wd} {v : MV} {k : Kd} {Q : MV → Wd → Prop}
theorem errs : (T.calls (callF T (n + 2))).err "UnsaidError" = true ∧ (T.calls (callF T (n + 2))).err "InvalidText" = true ∧ (T.calls (callF T (n + 2))).err "InvalidSigns" = true := ⟨err_of (by decide +kernel), err_of (by decide +kernel), err_of (by decide +kernel)⟩
theorem refused_ok {door turn : Int} (hk : kindOf w v = some k) (hl : ∀ s, v = .str s → s.length < 8000000) (hd : door = 0 ∨ door = 1) (bad0 : door = 0 → (isSg v && fitS 9999 v) = false) (bad1 : door = 1 → isSg v = false) (q : ∀ r w', w.length ≤ r → Fr w w' [] → w'[r]? = some (.lst [.int door, v]) → Q (.ref r) w') :
    wp (callF T (n + 3) ("_law_refused", none) [.int door, v, .int turn] []) Q NoE w := by
  refine wp_call (d := d__law_refused) (as := [.int door, v, .int turn]) rfl rfl ?_
  unfold d__law_refused
  have hx : ∀ (cls : Str) (u : Wd), (door = 0 ∧ cls = "InvalidText") ∨ (door = 1 ∧ cls = "InvalidSigns") → Fr w u [] → xw (exeH (T.calls (callF T (n + 2))) [("InvalidText", some 3), ("InvalidSigns", some 3)]
      [[.ret (some (.ite (.exi "UnsaidError") (.lst [.lit (.int 0), .exf "given"]) (.lst [.lit (.str "odd"), .lit .non])))], [.ret (some (.ite (.exi "UnsaidError") (.lst [.lit (.int 1), .exf "given"]) (.lst [.lit (.str "odd"), .lit .non])))]]
      ⟨cls, [("given", v)]⟩ [some (.int door), some v, some (.int turn), none]) ⟨fun S' w' => Q MV.non w', Q, fun e _ => NoE e, fun _ _ => False, fun _ _ => False⟩ u := by
    intro cls u hb fr
    have two : (2 : Nat) ≤ sizeLine := sl 2 (by decide)
    have go : Q (.ref u.length) (u ++ [.lst [.int door, v]]) := q _ _ fr.le (fr.trans .push (fun _ _ h => h)) at_push
    have x1 : (T.calls (callF T (n + 2))).exf "InvalidText" = [("given" : Str)] := exf_of eX
    have x2 : (T.calls (callF T (n + 2))).exf "InvalidSigns" = [("given" : Str)] := exf_of eS
    obtain ⟨u1, u2, u3⟩ := errs (n := n)
    rcases hb with ⟨rfl, rfl⟩ | ⟨rfl, rfl⟩
    · have s1 : (T.calls (callF T (n + 2))).sub "InvalidText" "InvalidText" = true := sub_of (by decide +kernel)
      have s2 : (T.calls (callF T (n + 2))).sub "InvalidText" "UnsaidError" = true := sub_of (by decide +kernel)
      rw [xw_hnd (by show (T.calls (callF T (n + 2))).exf "InvalidText" ≠ []; rw [x1]; simp) u2, if_pos s1]
      unfold suiL
      rw [xw_sui]
      simp only [List.length_cons, List.length_nil, Nat.reduceAdd, Nat.reduceLT, if_true, xw_cons, xw_nil, mEqs, xw_bnd, wp_bnd, wp_ret, xw_ret, Ds.at]
      rw [wp_exi (by show (T.calls (callF T (n + 2))).exf "InvalidText" ≠ []; rw [x1]; simp) u1]
      simp only [s2, opEqs, wp_ret, if_true, wp_bnd]
      rw [wp_exf (v := v) (by show ((T.calls (callF T (n + 2))).exf "InvalidText").contains "given" = true; rw [x1]; rfl) (by rfl)]
      simp only [wp_if, wp_alloc, List.length_cons, List.length_nil, Nat.reduceAdd, two, if_true]
      exact go
    · have s1 : (T.calls (callF T (n + 2))).sub "InvalidSigns" "InvalidText" = false := sub_of (by decide +kernel)
      have s3 : (T.calls (callF T (n + 2))).sub "InvalidSigns" "InvalidSigns" = true := sub_of (by decide +kernel)
      have s2 : (T.calls (callF T (n + 2))).sub "InvalidSigns" "UnsaidError" = true := sub_of (by decide +kernel)
      rw [xw_hnd (by show (T.calls (callF T (n + 2))).exf "InvalidSigns" ≠ []; rw [x2]; simp) u2, if_neg (by rw [s1]; exact Bool.false_ne_true), xw_hnd (by show (T.calls (callF T (n + 2))).exf "InvalidSigns" ≠ []; rw [x2]; simp) u3, if_pos s3]
      unfold suiL
      rw [xw_sui]
      simp only [List.length_cons, List.length_nil, Nat.reduceAdd, Nat.reduceLT, if_true, xw_cons, xw_nil, mEqs, xw_bnd, wp_bnd, wp_ret, xw_ret, Ds.at]
      rw [wp_exi (by show (T.calls (callF T (n + 2))).exf "InvalidSigns" ≠ []; rw [x2]; simp) u1]
      simp only [s2, opEqs, wp_ret, if_true, wp_bnd]
      rw [wp_exf (v := v) (by show ((T.calls (callF T (n + 2))).exf "InvalidSigns").contains "given" = true; rw [x2]; rfl) (by rfl)]
      simp only [wp_if, wp_alloc, List.length_cons, List.length_nil, Nat.reduceAdd, two, if_true]
      exact go
  have kw1 : callF T (n + 2) ("framed", none) [] [("text", v)] = callF T (n + 2) ("framed", none) [v] [] := call_kw (d := d_framed) (as := [v]) rfl rfl rfl
  have kw2 : callF T (n + 2) ("frames_in", none) [] [("signs", v)] = callF T (n + 2) ("frames_in", none) [v] [] := call_kw (d := d_frames_in) (as := [v]) rfl rfl rfl
  rcases hd with rfl | rfl
  · simp only [startS, List.map_cons, List.map_nil, List.length_cons, List.length_nil, Nat.reduceAdd, Nat.reduceSub, List.replicate_succ, List.replicate_zero, List.cons_append, List.nil_append, List.append_nil, xw_cons, xw_nil, mEqs, xw_bnd, wp_bnd, wp_ret, xw_ret, wp_var, List.getElem?_cons_zero, List.getElem?_cons_succ, Ds.at, wp_if, opEqs, wp_ite, if_true, fn_eq, List.zip_nil_left, List.zip_cons_cons, Bool.false_eq_true, if_false, setAll, List.set_cons_zero, List.set_cons_succ, xw_try, wp_eqI, kw1, kw2, sl 2 (by decide)]
    have z : ((0 : Int) == 0) = true := rfl
    simp only [z, if_true]
    split
    all_goals
      refine framed_any (n := n) hk hl (fun s w1 hs hp f => ?_) (fun w1 _ f => hx _ _ (.inl ⟨rfl, rfl⟩) f)
      exfalso
      subst hs
      have := bad0 rfl
      rw [isSg_of hp, fitS_str, decide_eq_true (by have := hp.le; omega)] at this
      cases this
  · simp only [startS, List.map_cons, List.map_nil, List.length_cons, List.length_nil, Nat.reduceAdd, Nat.reduceSub, List.replicate_succ, List.replicate_zero, List.cons_append, List.nil_append, List.append_nil, xw_cons, xw_nil, mEqs, xw_bnd, wp_bnd, wp_ret, xw_ret, wp_var, List.getElem?_cons_zero, List.getElem?_cons_succ, Ds.at, wp_if, opEqs, wp_ite, if_true, fn_eq, List.zip_nil_left, List.zip_cons_cons, Bool.false_eq_true, if_false, setAll, List.set_cons_zero, List.set_cons_succ, xw_try, wp_eqI, kw1, kw2, sl 2 (by decide)]
    have z : ((1 : Int) == 0) = false := rfl
    simp only [z, Bool.false_eq_true, if_false]
    split
    all_goals
      refine frames_any (n := n) hk hl (fun s r w1 hs hsg _ _ _ => ?_) (fun w1 _ f => hx _ _ (.inr ⟨rfl, rfl⟩) f)
      rw [bad1 rfl] at hsg
      cases hsg
end
end K05
set_option Elab.async false
set_option linter.all false
set_option maxRecDepth 100000
set_option maxHeartbeats 4000000
namespace K05
open PySem Mir L2 TL
section
variable {n b K : Nat} {w : Wd} {v : MV} {k : Kd} {Q : MV → Wd → Prop}
theorem spg {N : Nat} {s : Str} (h : StrP okP N s) : StrG N s := ⟨h.le, fun c hc => by have := okC_iff.mp (h.al c hc); omega⟩
structure Nic (lo : Nat) (w : Wd) (v : MV) : Prop where
  g : Gd 700 w v
  f : ∀ n, v = .ref n → lo ≤ n
  l : ∀ n xs, v = .ref n → w[n]? = some (.lst xs) → xs.length ≤ 5
  s : isSg v = false
theorem nic_flat {lo : Nat} {v : MV} (h : Flat 700 v) (s : isSg v = false) : Nic lo w v := by
  refine ⟨.inl h, fun n e => ?_, fun n xs e => ?_, s⟩ <;>
  · subst e
    rcases h with h | ⟨_, h⟩ | ⟨_, h, _⟩ | ⟨_, h, _⟩ <;> cases h
theorem nic_tup {lo : Nat} {xs : List MV} (h1 : xs.length ≤ 6) (h : ∀ x ∈ xs, Flat 700 x) : Nic lo w (.tup xs) :=
  ⟨.inr (.inl ⟨xs, rfl, h1, h⟩), fun n e => (by cases e), fun n xs e => (by cases e), rfl⟩
theorem nic_lst {lo m : Nat} {xs : List MV} (hm : w[m]? = some (.lst xs)) (hl : lo ≤ m) (h1 : xs.length ≤ 5) (h : ∀ x ∈ xs, Flat 700 x) : Nic lo w (.ref m) :=
  ⟨.inr (.inr (.inl ⟨m, xs, rfl, hm, by omega, h⟩)), fun n e => by cases e; exact hl, fun n ys e hy => (by cases e; rw [hm] at hy; cases hy; exact h1), rfl⟩
theorem nic_dic {lo m : Nat} {k : Str} {x : MV} (hm : w[m]? = some (.dic [(.inr k, x)])) (hl : lo ≤ m) (h1 : StrG 700 k) (h : Flat 700 x) : Nic lo w (.ref m) :=
  ⟨.inr (.inr (.inr ⟨m, k, x, rfl, hm, h1, h⟩)), fun n e => by cases e; exact hl, fun n ys e hy => (by cases e; rw [hm] at hy; cases hy), rfl⟩
theorem upto12 {k : Int} (h0 : 0 ≤ k) (h1 : k < 12) : k = 0 ∨ k = 1 ∨ k = 2 ∨ k = 3 ∨ k = 4 ∨ k = 5 ∨ k = 6 ∨ k = 7 ∨ k = 8 ∨ k = 9 ∨ k = 10 ∨ k = 11 := by omega
theorem no_sg {a c : Str} {x : Nat} (hx : okC x = false) {z : Str} (hz : cs z = [x]) : isSg (.str (a ++ z ++ c)) = false := by
  show (cs (a ++ z ++ c)).all okC = false
  rw [cs_append, cs_append, hz, List.all_append, List.all_append, List.all_cons, hx]
  simp
theorem odd_ok {t : Str} (ht : StrP okP 300 t) (hb : Box w b K) (hK : K + 100 < 2 ^ 36) (q : ∀ v w', Nic w.length w' v → Fr w w' [b] → Box w' b (K + 2) → Q v w') :
    wp (callF T (n + 2) ("_law_odd", none) [.ref b, .str t] []) Q NoE w := by
  refine wp_call (d := d__law_odd) rfl (bind2 (p := "_law_box_here") (q := "_law_text_here") (by decide)) ?_
  unfold d__law_odd
  have hle := ht.le
  have tG := spg ht
  refine xw_seq (I := fun S u => ∃ kd at_ : Int, S = [some (.ref b), some (.str t), none, some (.int kd), some (.int at_)] ∧ 0 ≤ kd ∧ kd < 12 ∧ Fr w u [b] ∧ Box u b (K + 2)) ?_ ?_
  · simp only [startS, List.map_cons, List.map_nil, List.length_cons, List.length_nil, Nat.reduceAdd, Nat.reduceSub, List.replicate_succ, List.replicate_zero, List.cons_append, List.nil_append, List.append_nil, xw_cons, xw_nil, mEqs, xw_bnd, wp_bnd, wp_ret, xw_ret, wp_var, List.getElem?_cons_zero, List.getElem?_cons_succ, Ds.at, wp_if, opEqs, wp_ite, if_true, fn_eq, List.zip_nil_left, List.zip_cons_cons, Bool.false_eq_true, if_false, setAll, List.set_cons_zero, List.set_cons_succ, wp_lenS, sl 2 (by decide)]
    refine take1 hb (by omega) (by decide) (by decide) fun kd w1 k0 k1 f1 b1 => ?_
    refine ⟨sl _ (by omega), ?_⟩
    obtain ⟨R1, hR1⟩ : ∃ R1 : Int, R1 = (t.length : Int) + 1 := ⟨_, rfl⟩
    rw [← hR1]
    refine take1 b1 (by omega) (by omega) (by omega) fun at_ w2 _ _ f2 b2 => ?_
    exact ⟨_, _, rfl, k0, k1, f1.trans f2 (fun _ _ h => h), b2⟩
  rintro S w1 ⟨kd, at_, rfl, k0, k1, f1, b1⟩
  have nlP : cs ("\n" : Str) = [10] := by decide +kernel
  have tbP : cs ("\t" : Str) = [9] := by decide +kernel
  have nl : StrG 1 ("\n" : Str) := StrG.of (by decide +kernel)
  have tb : StrG 1 ("\t" : Str) := StrG.of (by decide +kernel)
  have c1 := ht.cut none (some at_)
  have c2 := ht.cut (some at_) none
  have l1 := c1.le
  have l2 := c2.le
  have ln := nl.1
  have lt := tb.1
  simp only [startS, List.map_cons, List.map_nil, List.length_cons, List.length_nil, Nat.reduceAdd, Nat.reduceSub, List.replicate_succ, List.replicate_zero, List.cons_append, List.nil_append, List.append_nil, xw_cons, xw_nil, mEqs, xw_bnd, wp_bnd, wp_ret, xw_ret, wp_var, List.getElem?_cons_zero, List.getElem?_cons_succ, Ds.at, wp_if, opEqs, wp_ite, if_true, fn_eq, List.zip_nil_left, List.zip_cons_cons, Bool.false_eq_true, if_false, setAll, List.set_cons_zero, List.set_cons_succ, part_i, part_n, wp_slcS, wp_addS, ap_len, wp_alloc, wp_dic1, at_push, sl 1 (by decide), sl 2 (by decide), sl 0 (by decide), sl 9 (by decide), sl 3 (by decide), set_push]
  refine ⟨sl _ (by omega), sl _ (by omega), sl _ (by omega), sl _ (by omega), sl _ (by omega), sl _ (by omega), ?_⟩
  have e0 : isSg (.str (cutS t none (some at_) ++ "\n" ++ cutS t (some at_) none)) = false := no_sg (by decide) nlP
  have e1 : isSg (.str (t ++ "\n")) = false := by
    have := no_sg (a := t) (c := "") (by decide) nlP
    have e : t ++ "\n" ++ ("" : Str) = t ++ "\n" := str_ext (by rw [cs_append]; exact List.append_nil _)
    rwa [e] at this
  have e2 : isSg (.str ("\t" ++ t)) = false := by
    have := no_sg (a := "") (c := t) (by decide) tbP
    have e : ("" : Str) ++ "\t" ++ t = "\t" ++ t := str_ext (by rw [cs_append, cs_append, cs_append]; rfl)
    rwa [e] at this
  have F0 : Flat 700 (.str (cutS t none (some at_) ++ "\n" ++ cutS t (some at_) none)) := .str ((((spg c1).append nl).append (spg c2)).le (by decide))
  have F1 : Flat 700 (.str (t ++ "\n")) := .str ((tG.append nl).le (by decide))
  have F2 : Flat 700 (.str ("\t" ++ t)) := .str ((tb.append tG).le (by decide))
  have F : Flat 700 (.str t) := .str (tG.le (by decide))
  generalize cutS t none (some at_) ++ "\n" ++ cutS t (some at_) none = v0 at e0 F0
  generalize t ++ "\n" = v1 at e1 F1
  generalize "\t" ++ t = v2 at e2 F2
  have a0 : (w1 ++ [Cell.lst [MV.str t]] ++ [Cell.dic [(Sum.inr ("a" : Str), MV.str t)]])[w1.length]? = some (.lst [.str t]) := at_ap at_push
  obtain ⟨D, hD⟩ : ∃ D, D = (w1 ++ [Cell.lst [MV.str t]]).length := ⟨_, rfl⟩
  have a1 : (w1 ++ [Cell.lst [MV.str t]] ++ [Cell.dic [(Sum.inr ("a" : Str), MV.str t)]])[D]? = some (.dic [(.inr "a", .str t)]) := by rw [hD]; exact at_push
  have hDl : w.length ≤ D := by
    rw [hD, List.length_append]
    have := f1.le
    omega
  rw [← hD]
  have f2 : Fr w (w1 ++ [Cell.lst [MV.str t]] ++ [Cell.dic [(Sum.inr ("a" : Str), MV.str t)]]) [b] := (f1.trans .push (fun _ _ h => h)).trans .push (fun _ _ h => h)
  have b2 : Box (w1 ++ [Cell.lst [MV.str t]] ++ [Cell.dic [(Sum.inr ("a" : Str), MV.str t)]]) b (K + 2) := (b1.fr (ns := []) .push (by simp) (Nat.le_refl _)).fr (ns := []) .push (by simp) (Nat.le_refl _)
  have l1w := f1.le
  obtain ⟨A, hA⟩ : ∃ A, A = w1.length := ⟨_, rfl⟩
  rw [← hA] at a0 l1w ⊢
  generalize (w1 ++ [Cell.lst [MV.str t]] ++ [Cell.dic [(Sum.inr ("a" : Str), MV.str t)]]) = w2 at a0 a1 f2 b2
  obtain ⟨G, hG⟩ : ∃ G, G = (w2 ++ [Cell.lst [MV.str v0, .str v1, .str v2, .non, .int 0, .bl true, .ref A, .tup [.str t, .str "0000."], .ref D]]).length := ⟨_, rfl⟩
  have a3 : (w2 ++ [Cell.lst [MV.str v0, .str v1, .str v2, .non, .int 0, .bl true, .ref A, .tup [.str t, .str "0000."], .ref D]] ++ [Cell.lst []])[G]? = some (.lst []) := by rw [hG]; exact at_push
  rw [← hG]
  have hr : (w2 ++ [Cell.lst [MV.str v0, .str v1, .str v2, .non, .int 0, .bl true, .ref A, .tup [.str t, .str "0000."], .ref D]] ++ [Cell.lst []] ++ [Cell.lst [.ref G, .bl false, .int (-1)]])[w2.length]? = some (.lst [MV.str v0, .str v1, .str v2, .non, .int 0, .bl true, .ref A, .tup [.str t, .str "0000."], .ref D]) := at_ap (at_ap at_push)
  have hGl : w.length ≤ G := by
    rw [hG, List.length_append]
    have := f2.le
    omega
  rw [wp_addL hr at_push (by rw [sizeLine_eq]; simp only [List.length_cons, List.length_nil]; decide)]
  have f5 : Fr w2 (w2 ++ [Cell.lst [MV.str v0, .str v1, .str v2, .non, .int 0, .bl true, .ref A, .tup [.str t, .str "0000."], .ref D]] ++ [Cell.lst []] ++ [Cell.lst [.ref G, .bl false, .int (-1)]]) [] := (Fr.push.trans .push (fun _ _ h => h)).trans .push (fun _ _ h => h)
  have a4 := f5.at a0 (by simp)
  have a5 := f5.at a1 (by simp)
  have a6 := at_ap (c := Cell.lst [.ref G, .bl false, .int (-1)]) a3
  have f6 := f2.trans f5 (fun _ _ h => by cases h)
  have b6 := b2.fr f5 (by simp) (Nat.le_refl _)
  generalize (w2 ++ [Cell.lst [MV.str v0, .str v1, .str v2, .non, .int 0, .bl true, .ref A, .tup [.str t, .str "0000."], .ref D]] ++ [Cell.lst []] ++ [Cell.lst [.ref G, .bl false, .int (-1)]]) = w6 at a4 a5 a6 f6 b6
  simp only [List.cons_append, List.nil_append]
  have fin : ∀ {v : MV} {c : Cell}, Nic w.length (w6 ++ [c]) v → Q v (w6 ++ [c]) := fun hv => q _ _ hv (f6.trans .push (fun _ _ h => h)) (b6.fr (ns := []) .push (by simp) (Nat.le_refl _))
  rcases upto12 k0 k1 with rfl | rfl | rfl | rfl | rfl | rfl | rfl | rfl | rfl | rfl | rfl | rfl <;> rw [wp_idxL at_push (by rfl)] <;> refine fin ?_
  · exact nic_flat F0 e0
  · exact nic_flat F1 e1
  · exact nic_flat F2 e2
  · exact nic_flat .non rfl
  · exact nic_flat (.int (by decide)) rfl
  · exact nic_flat (.bl _) rfl
  · exact nic_lst (at_ap a4) l1w (by simp) (by simpa using F)
  · refine nic_tup (by simp) fun x hx => ?_
    simp only [List.mem_cons, List.not_mem_nil, or_false] at hx
    rcases hx with rfl | rfl
    · exact F
    · exact .str (StrG.of (by decide +kernel))
  · exact nic_dic (at_ap a5) hDl (StrG.of (by decide +kernel)) F
  · exact nic_lst (at_ap a6) hGl (by simp) (by simp)
  · exact nic_flat (.bl _) rfl
  · exact nic_flat (.int (by decide)) rfl
end
end K05
set_option Elab.async false
set_option linter.all false
set_option maxRecDepth 100000
set_option maxHeartbeats 4000000
namespace K05
open PySem Mir L2 TL
section
variable {n b K : Nat} {w : Wd} {v : MV} {k : Kd} {Q : MV → Wd → Prop}
/-- a value that a door is given -/
structure VOk (N lo : Nat) (door : Int) (w : Wd) (v : MV) : Prop where
  g : Gd N w v
  f : ∀ n, v = .ref n → lo ≤ n
  l : ∀ n xs, v = .ref n → w[n]? = some (.lst xs) → xs.length ≤ 5
  b0 : door = 0 → (isSg v && fitS 9999 v) = false
  b1 : door = 1 → isSg v = false
theorem twoI_d {N : Nat} {door : Int} {r : Nat} (h : Gd N w v) (hd : door.natAbs < 10 ^ 30) (hr : w[r]? = some (.lst [.int door, v])) : ∃ d, (∀ r', w[r']? = some (.lst [.int door, v]) → toD deepest w (.ref r') = some d) ∧ Sm ((N + 101) * 6 + 102) 2 d := by
  obtain ⟨d, h1, h2⟩ := good_d h
  refine ⟨.list [.int door, d], fun r' hr' => ?_, ?_⟩
  · rw [show deepest = 38 + 1 + 1 from rfl]
    unfold toD
    rw [hr']
    dsimp only
    rw [List.mapM_cons, List.mapM_cons, h1]
    rw [show toD (38 + 1) w (.int door) = some (.int door) by unfold toD; rfl]
    rfl
  · exact (SmL.list (SmL.cons (sm_int hd) (SmL.cons h2 SmL.nil))).mono (by omega) (by omega)
theorem wp_neS {a c : Str} {Q : MV → Wd → Prop} {E : Exn → Wd → Prop} {u : Wd} : wp (cmpM .NotEq (.str a) (.str c)) Q E u = Q (.bl (!decide (a = c))) u := rfl
theorem gd_le {N M : Nat} (h : Gd N w v) (l : N ≤ M) : Gd M w v := by
  have fl : ∀ {x : MV}, Flat N x → Flat M x := fun {x} hx => by
    rcases hx with h | h | h | ⟨s, h, h1⟩
    · exact .inl h
    · exact .inr (.inl h)
    · exact .inr (.inr (.inl h))
    · exact .inr (.inr (.inr ⟨s, h, h1.le l⟩))
  rcases h with h | ⟨xs, h1, h2, h3⟩ | ⟨n, xs, h1, h2, h3, h4⟩ | ⟨n, k, x, h1, h2, h3, h4⟩
  · exact .inl (fl h)
  · exact .inr (.inl ⟨xs, h1, h2, fun x hx => fl (h3 x hx)⟩)
  · exact .inr (.inr (.inl ⟨n, xs, h1, h2, h3, fun x hx => fl (h4 x hx)⟩))
  · exact .inr (.inr (.inr ⟨n, k, x, h1, h2, h3.le l, fl h4⟩))
theorem gd_lt {N m : Nat} (h : Gd N w (.ref m)) : m < w.length := by
  rcases h with (h | ⟨b, h⟩ | ⟨i, h, _⟩ | ⟨s, h, h1⟩) | ⟨xs, h, _⟩ | ⟨n, xs, h, h1, _⟩ | ⟨n, k, x, h, h1, _⟩ <;> cases h <;> exact lt_of_at h1
/-- a list among the values grows -/
theorem grow_ok {N lo : Nat} {door : Int} {r : Nat} {R : Wd → Prop} (hN : 4 ≤ N) (h : VOk N lo door w v) (hr : w[r]? = some (.lst [.int door, v])) (hrv : ∀ m, v = .ref m → m ≠ r) (hk : kindOf w v = some k)
    (q : ∀ u, Gd N u v → u[r]? = some (.lst [.int door, v]) → ∀ ms : List Nat, Fr w u ms → (∀ m ∈ ms, lo ≤ m) → R u) :
    if (k.is "list") = true then wp (bmChk .append v) (fun _ w' => wp (bmM .append v [.str "more"]) (fun _ w' => R w') NoE w') NoE w else R w := by
  rcases h.g with (rfl | ⟨z, rfl⟩ | ⟨i, rfl, hi⟩ | ⟨s, rfl, hi⟩) | ⟨xs, rfl, hl, hx⟩ | ⟨m, xs, rfl, hw, hl, hx⟩ | ⟨m, kk, x, rfl, hw, hk', hx⟩
  · cases hk
    exact q w h.g hr [] .refl (by simp)
  · cases hk
    exact q w h.g hr [] .refl (by simp)
  · cases hk
    exact q w h.g hr [] .refl (by simp)
  · cases hk
    exact q w h.g hr [] .refl (by simp)
  · cases hk
    exact q w h.g hr [] .refl (by simp)
  · have hk2 : kindOf w (.ref m) = some .lst := by unfold kindOf; dsimp only; rw [hw]
    rw [hk2] at hk
    cases hk
    rw [if_pos (show Kd.lst.is "list" = true from rfl), wp_appC hw, wp_app hw (by have := h.l m xs rfl hw; rw [sizeLine_eq]; omega)]
    have h5 := h.l m xs rfl hw
    refine q _ (.inr (.inr (.inl ⟨m, xs ++ [.str "more"], rfl, List.getElem?_set_self (lt_of_at hw), by rw [List.length_append, List.length_singleton]; omega, fun x hxx => ?_⟩))) ?_ [m] .set (fun j hj => by rw [List.mem_singleton] at hj; subst hj; exact h.f _ rfl)
    · rw [List.mem_append, List.mem_singleton] at hxx
      rcases hxx with hxx | rfl
      · exact hx x hxx
      · exact .str ((StrG.of (N := 4) (by decide +kernel)).le hN)
    · rw [List.getElem?_set_ne (hrv m rfl)]
      exact hr
  · have hk2 : kindOf w (.ref m) = some .dic := by unfold kindOf; dsimp only; rw [hw]
    rw [hk2] at hk
    cases hk
    exact q w h.g hr [] .refl (by simp)
end
end K05
set_option Elab.async false
set_option linter.all false
set_option maxRecDepth 100000
set_option maxHeartbeats 4000000
namespace K05
open PySem Mir L2 TL
section
variable {n b K : Nat} {w : Wd} {v : MV} {k : Kd} {Q : MV → Wd → Prop}
theorem nic_vok {lo : Nat} {door : Int} (h : Nic lo w v) : VOk 700 lo door w v := ⟨h.g, h.f, h.l, fun _ => by rw [h.s]; rfl, fun _ => h.s⟩
theorem vok_w {N lo : Nat} {door : Int} {w' : Wd} {b : Nat} (h : VOk N lo door w v) (f : Fr w w' []) : VOk N lo door w' v := by
  refine ⟨h.g.fr f (by simp), h.f, fun n xs e hx => ?_, h.b0, h.b1⟩
  subst e
  refine h.l n xs rfl ?_
  have hn : n < w.length := by
    rcases h.g with (h | ⟨b, h⟩ | ⟨i, h, _⟩ | ⟨s, h, h1⟩) | ⟨xs, h, _⟩ | ⟨n, xs, h, h1, _⟩ | ⟨n, k, x, h, h1, _⟩ <;> cases h <;> exact lt_of_at h1
  rw [f.2 n hn (by simp)] at hx
  exact hx
theorem kind_fr {w' : Wd} (h : kindOf w v = some k) (f : Fr w w' []) : kindOf w' v = some k := by
  cases v with
  | ref m =>
    unfold kindOf at h ⊢
    dsimp only at h ⊢
    have hm : m < w.length := by
      by_cases hm : m < w.length
      · exact hm
      · rw [List.getElem?_eq_none (by omega)] at h
        cases h
    rw [f.st m hm (by simp)]
    exact h
  | _ => exact h
theorem good_d2 {N : Nat} {w' : Wd} (h : Gd N w v) (f : Fr w w' []) : ∃ d, (∀ g, toD (g + 1) w v = some d) ∧ (∀ g, toD (g + 1) w' v = some d) ∧ Sm ((N + 101) * 6) 1 d := by
  obtain ⟨d, h1, h2⟩ := good_d h
  refine ⟨d, h1, fun g => ?_, h2⟩
  rw [← h1 g]
  rcases h with h | ⟨xs, rfl, hl, h⟩ | ⟨n, xs, rfl, hw, hl, h⟩ | ⟨n, k, x, rfl, hw, hk, hx⟩
  · obtain ⟨d0, e, _⟩ := flat_d h
    rw [e, e]
  · obtain ⟨ds, e, _⟩ := flats_d h
    unfold toD
    rw [e, e]
  · obtain ⟨ds, e, _⟩ := flats_d h
    have hw' := f.at hw (by simp)
    unfold toD
    rw [hw, hw']
    dsimp only
    rw [e, e]
  · obtain ⟨d0, e, _⟩ := flat_d hx
    have hw' := f.at hw (by simp)
    unfold toD
    rw [hw, hw']
    dsimp only
    rw [List.mapM_cons, List.mapM_cons, e, e]
    rfl
theorem two_D {door : Int} {r : Nat} {d : PyData} (h1 : ∀ g, toD (g + 1) w v = some d) (hr : w[r]? = some (.lst [.int door, v])) : toD deepest w (.ref r) = some (.list [.int door, d]) := by
  rw [show deepest = 38 + 1 + 1 from rfl]
  unfold toD
  rw [hr]
  dsimp only
  rw [List.mapM_cons, List.mapM_cons, h1]
  rw [show toD (38 + 1) w (.int door) = some (.int door) by unfold toD; rfl]
  rfl
theorem two_sm {N : Nat} {door : Int} {d : PyData} (h2 : Sm ((N + 101) * 6) 1 d) (hd : door.natAbs < 10 ^ 30) : Sm ((N + 101) * 6 + 102) 2 (.list [.int door, d]) :=
  (SmL.list (SmL.cons (sm_int hd) (SmL.cons h2 SmL.nil))).mono (by omega) (by omega)
theorem doorD {F : Str} {p r : Nat} (h1 : w[p]? = some (.lst [.str F, .tup [.ref r, .int 0]])) (h2 : w[r]? = some (.lst [])) : toD deepest w (.ref p) = some (.list [.str F, frD [] 0]) := by
  rw [show deepest = 37 + 2 + 1 from rfl]
  unfold toD
  rw [h1]
  dsimp only
  have e1 := frD_of (ts := []) (g := 0) h2 37
  rw [List.mapM_cons, List.mapM_cons, e1]
  rw [show toD (37 + 2) w (.str F) = some (.str F) by unfold toD; rfl]
  rfl
theorem opEqs_tru {z : Bool} {R : Bool → Wd → Prop} {E : Exn → Wd → Prop} : wp (truM (.bl z)) R E w = R z w := rfl
theorem big_ok {c : Calls} {S : Mir.Env} {R : MV → Wd → Prop} {E : Exn → Wd → Prop} (hc : ∀ {R : MV → Wd → Prop} {E : Exn → Wd → Prop} {w : Wd}, (∀ A : Str, StrP okP 94 A → A.length = 94 → R (.str A) w) → wp (c.fn ("_law_alphabet", none) [] []) R E w) (q : ∀ s : Str, StrP okP 10000 s → decide ((s.length : Int) ≤ 9999) = false → R (.str s) w) : wp (Mir.den c none ((Ex.bin Operator.Mult (Ex.call "_law_alphabet" [] [] []) (Ex.lit (MV.int 107))).slc none (some (Ex.lit (MV.int 10000)))) S) R E w := by
  simp only [mEqs, wp_bnd, wp_ret, List.zip_nil_left]
  refine hc fun A A2 A1 => ?_
  have hmu := A2.mul (M := 107) (n := 107) (by decide)
  have e107 : (107 : Int).toNat = 107 := rfl
  have l94 : (Txt.mul A 107).length = 10058 := by rw [mul_len, A1, e107]
  simp only [wp_mulS]
  refine ⟨⟨by decide, by decide, by rw [A1]; decide⟩, ?_⟩
  simp only [part_n, part_i, wp_ret, wp_slcS]
  refine ⟨sl _ (by rw [l94]; decide), ?_⟩
  obtain ⟨z, hz⟩ : ∃ z : Int, z = 10000 := ⟨_, rfl⟩
  rw [← hz]
  have hcut := hmu.cut none (some z)
  have lc : (cutS (Txt.mul A 107) none (some z)).length = 10000 := by
    obtain ⟨m, hm⟩ : ∃ m : Nat, m = 10000 := ⟨_, rfl⟩
    have e : z = (m : Int) := by omega
    rw [← cs_len, cs_cut, e, cutL_pre, List.length_take, cs_len, l94]
    omega
  exact q _ ⟨Nat.le_of_eq lc, hcut.al⟩ (decide_eq_false (by omega))
theorem cond_ok {c : Calls} {S : Mir.Env} {great : Bool} {z : Int} {R : MV → Wd → Prop} {E : Exn → Wd → Prop} (h2 : S[2]? = some (some (.bl great))) (h3 : S[3]? = some (some (.int z))) : wp (Mir.den c none ((Ex.var 2).and (Ex.cmp CmpOp.Eq (Ex.var 3) (Ex.lit (MV.int 4)))) S) R E w = R (.bl (great && (z == 4))) w := by
  simp only [mEqs, wp_bnd, wp_ret, wp_var, h2, h3, opEqs, wp_ite, wp_eqI]
  cases great
  · rfl
  · rfl
theorem great_ok {c : Calls} {S : Mir.Env} {D : Ds} {great : Bool} {z : Int} (hc : ∀ {R : MV → Wd → Prop} {E : Exn → Wd → Prop} {w : Wd}, (∀ A : Str, StrP okP 94 A → A.length = 94 → R (.str A) w) → wp (c.fn ("_law_alphabet", none) [] []) R E w) (h2 : S[2]? = some (some (.bl great))) (h3 : S[3]? = some (some (.int z)))
    (q1 : (great && (z == 4)) = false → D.nx S w) (q2 : (great && (z == 4)) = true → ∀ s : Str, StrP okP 10000 s → decide ((s.length : Int) ≤ 9999) = false → D.nx (S.set 4 (some (.str s))) w) :
    xw (exe c none (Sx.ife ((Ex.var 2).and (Ex.cmp CmpOp.Eq (Ex.var 3) (Ex.lit (MV.int 4)))) [Sx.asg (Tg.var 4) ((Ex.bin Operator.Mult (Ex.call "_law_alphabet" [] [] []) (Ex.lit (MV.int 107))).slc none (some (Ex.lit (MV.int 10000))))] []) S) D w := by
  rw [exe_ife, xw_bnd, wp_bnd, cond_ok h2 h3, opEqs_tru]
  cases hg : (great && (z == 4)) with
  | false =>
    rw [if_neg Bool.false_ne_true, xw_nil]
    exact q1 hg
  | true =>
    rw [if_pos rfl, xw_cons, exe_asg, xw_bnd]
    refine big_ok hc fun big hcP lc => ?_
    exact q2 hg big hcP lc
theorem doors_ok {t : Str} {great : Bool} (ht : StrP okP 200 t) (hb : Box w b K) (hK : K + 1000 < 2 ^ 36) (q : ∀ w', Fr w w' [b] → Box w' b (K + 30) → Q (.bl true) w') : wp (callF T (n + 4) ("_law_doors", none) [.ref b, .str t, .bl great] []) Q NoE w := by
  refine wp_call (d := d__law_doors) (as := [.ref b, .str t, .bl great]) rfl rfl ?_
  unfold d__law_doors
  have hbl := hb.lt
  have hle := ht.le
  have hF := frS_sg (ht.mono (by decide))
  have zP : StrP okP 5 ("0000." : Str) := StrP.of (by decide +kernel)
  have hFl := hF.le
  have zl := zP.le
  refine xw_seq (I := fun S u => (∃ x3 x4 x5 x6 x7, S = [some (.ref b), some (.str t), some (.bl great), x3, x4, x5, x6, x7]) ∧ Fr w u [b] ∧ Box u b (K + 24)) ?_ ?_
  · simp only [startS, List.map_cons, List.map_nil, List.length_cons, List.length_nil, Nat.reduceAdd, Nat.reduceSub, List.replicate_succ, List.replicate_zero, List.cons_append, List.nil_append, List.append_nil, xw_cons, xw_nil, mEqs, xw_bnd, wp_bnd, wp_ret, xw_ret, wp_var, List.getElem?_cons_zero, List.getElem?_cons_succ, Ds.at, wp_if, opEqs, wp_ite, if_true, fn_eq, List.zip_nil_left, List.zip_cons_cons, Bool.false_eq_true, if_false, setAll, List.set_cons_zero, List.set_cons_succ]
    rw [wp_rng (by decide) (by decide)]
    refine wp_for (fun i S u => (∃ x3 x4 x5 x6 x7, S = [some (.ref b), some (.str t), some (.bl great), x3, x4, x5, x6, x7]) ∧ Fr w u [b] ∧ Box u b (K + 4 * i)) _ 0 _ _ (Nat.zero_add _) ⟨⟨_, _, _, _, _, rfl⟩, .refl, hb⟩ (fun i S u hi ⟨⟨x3, x4, x5, x6, x7, hS⟩, fu, bu⟩ => ⟨.int (0 + i), if_pos hi, ?_⟩) (fun S u ⟨hS, fu, bu⟩ => ⟨rfl, hS, fu, bu⟩)
    have hi' : i < 6 := hi
    subst hS
    obtain ⟨z, hz⟩ : ∃ z : Int, z = 0 + (i : Int) := ⟨_, rfl⟩
    rw [← hz]
    obtain ⟨door, hd, hd01⟩ : ∃ door : Int, door = z % 2 ∧ (door = 0 ∨ door = 1) := ⟨_, rfl, by omega⟩
    have hul := fu.le
    refine xw_seq (I := fun S u1 => ∃ turn : Int, S = [some (.ref b), some (.str t), some (.bl great), some (.int z), x4, x5, some (.int door), some (.int turn)] ∧ Fr u u1 [b] ∧ Box u1 b (K + 4 * i + 1)) ?_ ?_
    · simp only [startS, List.map_cons, List.map_nil, List.length_cons, List.length_nil, Nat.reduceAdd, Nat.reduceSub, List.replicate_succ, List.replicate_zero, List.cons_append, List.nil_append, List.append_nil, xw_cons, xw_nil, mEqs, xw_bnd, wp_bnd, wp_ret, xw_ret, wp_var, List.getElem?_cons_zero, List.getElem?_cons_succ, Ds.at, wp_if, opEqs, wp_ite, if_true, fn_eq, List.zip_nil_left, List.zip_cons_cons, Bool.false_eq_true, if_false, setAll, List.set_cons_zero, List.set_cons_succ, wp_mod, sl 2 (by decide), ← hd]
      refine ⟨by decide, ?_⟩
      refine take1 bu (by omega) (by decide) (by decide) fun turn w1 _ _ f1 b1 => ?_
      exact ⟨_, rfl, f1, b1⟩
    rintro S u1 ⟨turn, rfl, f1, b1⟩
    have l1 := f1.le
    refine xw_seq (I := fun S u2 => ∃ v : MV, S = [some (.ref b), some (.str t), some (.bl great), some (.int z), some v, x5, some (.int door), some (.int turn)] ∧ VOk 700 u.length door u2 v ∧ Fr u u2 [b] ∧ Box u2 b (K + 4 * i + 3)) ?_ ?_
    · simp only [startS, List.map_cons, List.map_nil, List.length_cons, List.length_nil, Nat.reduceAdd, Nat.reduceSub, List.replicate_succ, List.replicate_zero, List.cons_append, List.nil_append, List.append_nil, xw_cons, xw_nil, mEqs, xw_bnd, wp_bnd, wp_ret, xw_ret, wp_var, List.getElem?_cons_zero, List.getElem?_cons_succ, Ds.at, wp_if, opEqs, wp_ite, if_true, fn_eq, List.zip_nil_left, List.zip_cons_cons, Bool.false_eq_true, if_false, setAll, List.set_cons_zero, List.set_cons_succ, wp_eqI]
      have fin : ∀ v w', Nic u1.length w' v → Fr u1 w' [b] → Box w' b (K + 4 * i + 1 + 2) → ∃ v' : MV, [some (.ref b), some (.str t), some (.bl great), some (.int z), some v, x5, some (.int door), some (.int turn)] = [some (.ref b), some (.str t), some (.bl great), some (.int z), some v', x5, some (.int door), some (.int turn)] ∧ VOk 700 u.length door w' v' ∧ Fr u w' [b] ∧ Box w' b (K + 4 * i + 3) := fun v w' hv f b => ⟨v, rfl, nic_vok ⟨hv.g, fun n e => Nat.le_trans l1 (hv.f n e), hv.l, hv.s⟩, f1.trans f (fun _ _ h => h), b⟩
      split
      · exact odd_ok (n := n + 1) (ht.mono (by decide)) b1 (by omega) fin
      · refine frame_ok (by omega) ?_
        simp only [wp_addS]
        exact ⟨sl _ (by omega), odd_ok (n := n + 1) ((hF.append zP).mono (by omega)) b1 (by omega) fin⟩
    rintro S u2 ⟨v0, rfl, hv0, f2, b2⟩
    refine xw_seq (I := fun S u3 => ∃ v : MV, S = [some (.ref b), some (.str t), some (.bl great), some (.int z), some v, x5, some (.int door), some (.int turn)] ∧ VOk 10000 u.length door u3 v ∧ u3 = u2) ?_ ?_
    · have keep : VOk 10000 u.length door u2 v0 := ⟨gd_le hv0.g (by decide), hv0.f, hv0.l, hv0.b0, hv0.b1⟩
      refine great_ok (z := z) (great := great) (fun h => alph_ok (n := n + 2) h) rfl rfl (fun _ => ⟨_, rfl, keep, rfl⟩) fun hg big hcP lc => ?_
      have hz4 : z = 4 := by
        have := (Bool.and_eq_true_iff.mp hg).2
        simpa using this
      have hd0 : door = 0 := by omega
      refine ⟨_, rfl, ⟨.inl (.str (spg hcP)), fun n e => (by cases e), fun n xs e => (by cases e), fun _ => ?_, fun h1 => ?_⟩, rfl⟩
      · rw [fitS_str, lc, Bool.and_false]
      · omega
    rintro S u3 ⟨v, rfl, hv, rfl⟩
    obtain ⟨kd, hkd⟩ := hv.g.kind
    refine xw_seq (I := fun S u4 => ∃ r : Nat, S = [some (.ref b), some (.str t), some (.bl great), some (.int z), some v, some (.ref r), some (.int door), some (.int turn)] ∧ u3.length ≤ r ∧ Fr u3 u4 [] ∧ u4[r]? = some (.lst [.int door, v])) ?_ ?_
    · simp only [startS, List.map_cons, List.map_nil, List.length_cons, List.length_nil, Nat.reduceAdd, Nat.reduceSub, List.replicate_succ, List.replicate_zero, List.cons_append, List.nil_append, List.append_nil, xw_cons, xw_nil, mEqs, xw_bnd, wp_bnd, wp_ret, xw_ret, wp_var, List.getElem?_cons_zero, List.getElem?_cons_succ, Ds.at, wp_if, opEqs, wp_ite, if_true, fn_eq, List.zip_nil_left, List.zip_cons_cons, Bool.false_eq_true, if_false, setAll, List.set_cons_zero, List.set_cons_succ]
      refine refused_ok (n := n) hkd (fun s hs => ?_) hd01 hv.b0 hv.b1 fun r u4 hr f4 h4 => ⟨r, rfl, hr, f4, h4⟩
      have := (hv.g.str s hs).1
      omega
    rintro S u4 ⟨r, rfl, hr, f4, h4⟩
    have hv4 : VOk 10000 u.length door u4 v := vok_w (b := b) hv f4
    have hkd4 : kindOf u4 v = some kd := kind_fr hkd f4
    refine xw_seq (I := fun S u5 => S = [some (.ref b), some (.str t), some (.bl great), some (.int z), some v, some (.ref r), some (.int door), some (.int turn)] ∧ Gd 10000 u5 v ∧ u5[r]? = some (.lst [.int door, v]) ∧ ∃ ms : List Nat, Fr u4 u5 ms ∧ ∀ m ∈ ms, u.length ≤ m) ?_ ?_
    · simp only [startS, List.map_cons, List.map_nil, List.length_cons, List.length_nil, Nat.reduceAdd, Nat.reduceSub, List.replicate_succ, List.replicate_zero, List.cons_append, List.nil_append, List.append_nil, xw_cons, xw_nil, mEqs, xw_bnd, wp_bnd, wp_ret, xw_ret, wp_var, List.getElem?_cons_zero, List.getElem?_cons_succ, Ds.at, wp_if, opEqs, wp_ite, if_true, fn_eq, List.zip_nil_left, List.zip_cons_cons, Bool.false_eq_true, if_false, setAll, List.set_cons_zero, List.set_cons_succ]
      rw [wp_isi hkd4 (by decide)]
      try simp only [startS, List.map_cons, List.map_nil, List.length_cons, List.length_nil, Nat.reduceAdd, Nat.reduceSub, List.replicate_succ, List.replicate_zero, List.cons_append, List.nil_append, List.append_nil, xw_cons, xw_nil, mEqs, xw_bnd, wp_bnd, wp_ret, xw_ret, wp_var, List.getElem?_cons_zero, List.getElem?_cons_succ, Ds.at, wp_if, opEqs, wp_ite, if_true, fn_eq, List.zip_nil_left, List.zip_cons_cons, Bool.false_eq_true, if_false, setAll, List.set_cons_zero, List.set_cons_succ]
      refine grow_ok (r := r) (R := fun w' => True ∧ Gd 10000 w' v ∧ w'[r]? = some (Cell.lst [MV.int door, v]) ∧ ∃ ms : List Nat, Fr u4 w' ms ∧ ∀ (m : Nat), m ∈ ms → List.length u ≤ m) (by decide) hv4 h4 (fun m e => ?_) hkd4 fun x g h ms f hm => ⟨trivial, g, h, ms, f, hm⟩
      subst e
      have := gd_lt hv.g
      omega
    rintro S u5 ⟨rfl, g5, h5, ms, f5, hms⟩
    simp only [startS, List.map_cons, List.map_nil, List.length_cons, List.length_nil, Nat.reduceAdd, Nat.reduceSub, List.replicate_succ, List.replicate_zero, List.cons_append, List.nil_append, List.append_nil, xw_cons, xw_nil, mEqs, xw_bnd, wp_bnd, wp_ret, xw_ret, wp_var, List.getElem?_cons_zero, List.getElem?_cons_succ, Ds.at, wp_if, opEqs, wp_ite, if_true, fn_eq, List.zip_nil_left, List.zip_cons_cons, Bool.false_eq_true, if_false, setAll, List.set_cons_zero, List.set_cons_succ, sl 2 (by decide)]
    have hd30 : door.natAbs < 10 ^ 30 := by omega
    obtain ⟨d, d1, d2, ds⟩ := good_d2 (w' := u5 ++ [Cell.lst [.int door, v]]) g5 .push
    have sm := two_sm (door := door) ds hd30
    have sh := sm.shows (by rw [sizeLine_eq]; decide) (by decide)
    rw [wp_repr (two_D d1 h5) sh, wp_alloc, wp_repr (two_D d2 at_push) sh, wp_neS, decide_eq_true rfl]
    simp only [startS, List.map_cons, List.map_nil, List.length_cons, List.length_nil, Nat.reduceAdd, Nat.reduceSub, List.replicate_succ, List.replicate_zero, List.cons_append, List.nil_append, List.append_nil, xw_cons, xw_nil, mEqs, xw_bnd, wp_bnd, wp_ret, xw_ret, wp_var, List.getElem?_cons_zero, List.getElem?_cons_succ, Ds.at, wp_if, opEqs, wp_ite, if_true, fn_eq, List.zip_nil_left, List.zip_cons_cons, Bool.false_eq_true, if_false, setAll, List.set_cons_zero, List.set_cons_succ, Bool.not_true]
    have fa : Fr u u4 [b] := f2.trans f4 (fun _ _ h => by cases h)
    have hbu : b < u.length := bu.lt
    have fb : Fr u u5 [b] := fa.trans f5 fun j hj hm => by have := hms j hm; omega
    refine ⟨⟨_, _, _, _, _, rfl⟩, (fu.trans fb (fun _ _ h => h)).trans .push (fun _ _ h => h), ?_⟩
    have b4 := b2.fr f4 (by simp) (Nat.le_refl _)
    have b5 := b4.fr f5 (fun hm => by have := hms b hm; omega) (Nat.le_refl _)
    exact b5.fr (ns := []) .push (by simp) (by omega)
  rintro S u ⟨⟨x3, x4, x5, x6, x7, rfl⟩, fu, bu⟩
  simp only [startS, List.map_cons, List.map_nil, List.length_cons, List.length_nil, Nat.reduceAdd, Nat.reduceSub, List.replicate_succ, List.replicate_zero, List.cons_append, List.nil_append, List.append_nil, xw_cons, xw_nil, mEqs, xw_bnd, wp_bnd, wp_ret, xw_ret, wp_var, List.getElem?_cons_zero, List.getElem?_cons_succ, Ds.at, wp_if, opEqs, wp_ite, if_true, fn_eq, List.zip_nil_left, List.zip_cons_cons, Bool.false_eq_true, if_false, setAll, List.set_cons_zero, List.set_cons_succ, sl 2 (by decide), sl 0 (by decide)]
  refine framed_ok (n := n + 1) (ht.mono (by decide)) fun u1 f1 => ?_
  refine frames_ok (n := n + 1) (s := "") (StrP.of (by decide +kernel)) fun r u2 hr f2 h2 => ?_
  have hrd : rd (cs ("" : Str)) = ([], 0) := rd_row (ts := []) (by simp)
  rw [hrd] at h2 ⊢
  rw [wp_alloc]
  refine frame_ok (n := n + 2) (by omega) ?_
  rw [wp_alloc, wp_alloc]
  have h3 : (u2 ++ [Cell.lst [.str (frS t), .tup [.ref r, .int 0]]])[u2.length]? = some (.lst [.str (frS t), .tup [.ref r, .int 0]]) := at_push
  have h4 := at_ap (c := Cell.lst [.str (frS t), .tup [.ref r, .int 0]]) h2
  have f3 : Fr u2 (u2 ++ [Cell.lst [.str (frS t), .tup [.ref r, .int 0]]]) [] := .push
  generalize (u2 ++ [Cell.lst [.str (frS t), .tup [.ref r, .int 0]]]) = u3 at h3 h4 f3
  obtain ⟨P, hP⟩ : ∃ P, P = u2.length := ⟨_, rfl⟩
  show wp (callF T (n + 3) ("_law_equal", none) [.ref u2.length, _] []) Q NoE _
  rw [← hP] at h3 ⊢
  have h5 : (u3 ++ [Cell.lst []])[u3.length]? = some (.lst []) := at_push
  have f4 : Fr u3 (u3 ++ [Cell.lst []]) [] := .push
  obtain ⟨R2, hR2⟩ : ∃ R2, R2 = u3.length := ⟨_, rfl⟩
  rw [← hR2] at h5 ⊢
  have f5 : Fr (u3 ++ [Cell.lst []]) (u3 ++ [Cell.lst []] ++ [Cell.lst [.str (frS t), .tup [.ref R2, .int 0]]]) [] := .push
  have h6 : (u3 ++ [Cell.lst []] ++ [Cell.lst [.str (frS t), .tup [.ref R2, .int 0]]])[(u3 ++ [Cell.lst []]).length]? = some (.lst [.str (frS t), .tup [.ref R2, .int 0]]) := at_push
  have f45 := f4.trans f5 (fun _ _ h => h)
  have h7 := f5.at h5 (by simp)
  have h8 := f45.at h3 (by simp)
  have h9 := f45.at h4 (by simp)
  have lt : ∀ c ∈ cs (frS t), c < 0x110000 := fun c hc => by
    have := okC_iff.mp (hF.al c hc)
    omega
  have fS : StrG 300 (frS t) := ⟨by omega, lt⟩
  obtain ⟨s1, s2⟩ := frD_sm (ts := []) (g := 0) (by simp) (by decide)
  have sm : Sm 1000 3 (.list [.str (frS t), frD [] 0]) := (SmL.list (SmL.cons (sm_str fS) (SmL.cons s1 SmL.nil))).mono (by decide) (by decide)
  have shp : SeqAt.shaped (.list [.str (frS t), frD [] 0]) = true := by
    have a1 := str_shaped lt
    unfold SeqAt.shaped at a1 s2 ⊢
    rw [Bool.and_eq_true] at a1 s2 ⊢
    refine ⟨?_, decide_eq_true (Nat.le_trans sm.dp (by decide))⟩
    simp only [PyData.canLay0, PyData.canLayAll0] at a1 s2 ⊢
    simp [a1.1, s2.1]
  have ff : Fr u (u3 ++ [Cell.lst []] ++ [Cell.lst [.str (frS t), .tup [.ref R2, .int 0]]]) [] := ((f1.trans f2 (fun _ _ h => h)).trans f3 (fun _ _ h => h)).trans f45 (fun _ _ h => h)
  refine equal_ok (n := n + 2) (doorD h8 h9) (doorD h6 h7) shp (sm.shows (by rw [sizeLine_eq]; decide) (by decide)) ?_
  exact q _ (fu.trans ff (fun _ _ h => by cases h)) (bu.fr ff (by simp) (by omega))
end
end K05
set_option Elab.async false
set_option linter.all false
set_option maxRecDepth 100000
set_option maxHeartbeats 4000000
namespace K05
open PySem Mir L2 TL
theorem rep_len {t : List Nat} (M : Nat) : (rowL (List.replicate M t)).length = M * (frm t).length := by
  unfold rowL
  rw [List.map_replicate]
  induction M with
  | zero => simp
  | succ M ih => rw [List.replicate_succ, List.flatten_cons, List.length_append, ih, Nat.succ_mul]; omega
theorem rep_ends {t : List Nat} : ∀ (M a c : Nat), a ≤ c → c < a + (M + 1) * (t.length + 5) →
    ((endsF a (List.replicate M t)).filter fun x => decide (x ≤ c)).length - 1 = (c - a) / (t.length + 5) ∧ ((endsF a (List.replicate M t)).filter fun x => decide (x ≤ c)).length ≥ 1
  | 0, a, c, h, hc => by
    have e : (c - a) / (t.length + 5) = 0 := Nat.div_eq_of_lt (by omega)
    rw [List.replicate_zero, e]
    unfold endsF
    rw [List.filter_cons, if_pos (by exact decide_eq_true h)]
    simp
  | M + 1, a, c, h, hc => by
    rw [List.replicate_succ]
    unfold endsF
    rw [List.filter_cons, if_pos (by exact decide_eq_true h), List.length_cons]
    by_cases h2 : a + t.length + 5 ≤ c
    · obtain ⟨ih, ih2⟩ := rep_ends (t := t) M (a + t.length + 5) c h2 (by rw [Nat.succ_mul] at hc; omega)
      have e : (c - a) / (t.length + 5) = (c - (a + t.length + 5)) / (t.length + 5) + 1 := by
        rw [show c - a = (c - (a + t.length + 5)) + (t.length + 5) by omega, Nat.add_div_right _ (by omega)]
      rw [e]
      omega
    · have e : (c - a) / (t.length + 5) = 0 := Nat.div_eq_of_lt (by omega)
      have z : ((endsF (a + t.length + 5) (List.replicate M t)).filter fun x => decide (x ≤ c)) = [] := by
        rw [List.filter_eq_nil_iff]
        intro x hx
        have := endsF_ge _ _ x hx
        simp only [decide_eq_true_eq]
        omega
      rw [e, z]
      simp
theorem rep_at {t : List Nat} : ∀ (M a j : Nat), j ≤ M → (endsF a (List.replicate M t)).getD j 0 = a + j * (t.length + 5)
  | M, a, 0, _ => by
    cases M with
    | zero => simp [endsF]
    | succ M => rw [List.replicate_succ]; simp [endsF]
  | 0, a, j + 1, h => by omega
  | M + 1, a, j + 1, h => by
    rw [List.replicate_succ]
    unfold endsF
    rw [List.getD_cons_succ, rep_at M _ j (by omega), Nat.succ_mul]
    omega
/-- a cut row of equal frames -/
theorem rep_rd {t : List Nat} {M c : Nat} (h : t.length ≤ 9999) (hc : c < (M + 1) * (t.length + 5)) (hq : c / (t.length + 5) ≤ M) : rd ((rowL (List.replicate M t)).take c) = (List.replicate (c / (t.length + 5)) t, c / (t.length + 5) * (t.length + 5)) := by
  rw [rd_cut (fun x hx => by rw [List.mem_replicate] at hx; rw [hx.2]; exact h)]
  obtain ⟨e, _⟩ := rep_ends (t := t) M 0 c (Nat.zero_le _) (by omega)
  rw [Nat.sub_zero] at e
  rw [e, rep_at M 0 _ hq, List.take_replicate, Nat.min_eq_left hq, Nat.zero_add]
end K05
set_option Elab.async false
set_option linter.all false
set_option maxRecDepth 100000
set_option maxHeartbeats 4000000
namespace K05
open PySem Mir L2 TL
section
variable {n b K : Nat} {w : Wd} {v : MV} {k : Kd} {Q : MV → Wd → Prop}
theorem wp_mulL {l : Nat} {xs : List MV} {j : Int} {E : Exn → Wd → Prop} (h : w[l]? = some (.lst xs)) (h0 : 0 ≤ j) (h1 : j < 1000000) (hl : xs.length * j.toNat ≤ sizeLine) : wp (binM .Mult (.ref l) (.int j)) Q E w = Q (.ref w.length) (w ++ [.lst (List.replicate j.toNat xs).flatten]) := by
  refine wp_ok ?_
  show mulM (.ref l) (.int j) w = _
  unfold mulM
  simp only [h]
  rw [if_pos ⟨by omega, by omega, hl⟩]
  rfl
theorem many_tail {C : Calls} {wh P c G : Nat} {t RR : Str} {M L Z : MV} {u' : Wd} (ht : ∀ {R : MV → Wd → Prop} {u : Wd} {K : Nat}, Box u b K → K < 2 ^ 36 → (∀ d w', Fr u w' [b] → Box w' b (K + 1) → R (.int d) w') → wp (C.fn ("_law_take", none) [.ref b, .int 2] []) R NoE u) (htold : ∀ {R : MV → Wd → Prop} {u : Wd} {turn : Int} {d : Nat}, u[d]? = some (.lst (List.replicate wh (.str t))) → (∀ w', Fr u w' [] → R (.bl true) w') → wp (C.fn ("_law_told", none) [.str (cutS RR none (some (c : Int))), .tup [.ref d, .int (G : Int)], .int turn] []) R NoE u) (fu : Fr w u' [b]) (bu : Box u' b (K + 3)) (hK : K + 100 < 2 ^ 36) (hbl : b < w.length)
    (x1 : ∀ {R : MV → Wd → Prop} {E : Exn → Wd → Prop} {u : Wd}, wp (binM .Mult M Z) R E u = R (.int (P : Int)) u) (ec : ∀ {R : MV → Wd → Prop} {E : Exn → Wd → Prop} {u : Wd}, wp (binM .Sub (.int (P : Int)) L) R E u = R (.int (c : Int)) u)
    (x2 : ∀ {R : MV → Wd → Prop} {E : Exn → Wd → Prop} {u : Wd}, wp (binM .Mult (.int (wh : Int)) Z) R E u = R (.int (G : Int)) u) (x3 : ∀ {R : MV → Wd → Prop} {E : Exn → Wd → Prop} {u : Wd}, wp (binM .FloorDiv (.int (c : Int)) Z) R E u = R (.int (wh : Int)) u)
    (RL : RR.length ≤ 20000) (hw : wh ≤ 1900)
    (q : ∀ w', Fr w w' [b] → Box w' b (K + 10) → Q (.bl true) w') :
    xw (exeL C none [.asg (.var 1) (.bin .FloorDiv (.bin .Sub (.bin .Mult (.var 2) (.var 6)) (.var 4)) (.var 6)),
      .ret (some (.call "_law_told" [.slc (.var 5) none (some (.bin .Sub (.bin .Mult (.var 2) (.var 6)) (.var 4))), .tup [.bin .Mult (.lst [.var 3]) (.var 1), .bin .Mult (.var 1) (.var 6)], .call "_law_take" [.var 0, .lit (.int 2)] [] []] [] []))]
      [some (.ref b), none, some M, some (.str t), some L, some (.str RR), some Z]) ⟨fun _ => Q .non, Q, fun e _ => NoE e, fun _ _ => False, fun _ _ => False⟩ u' := by
  simp only [startS, List.map_cons, List.map_nil, List.length_cons, List.length_nil, Nat.reduceAdd, Nat.reduceSub, List.replicate_succ, List.replicate_zero, List.cons_append, List.nil_append, List.append_nil, xw_cons, xw_nil, mEqs, xw_bnd, wp_bnd, wp_ret, xw_ret, wp_var, List.getElem?_cons_zero, List.getElem?_cons_succ, Ds.at, wp_if, opEqs, wp_ite, if_true, fn_eq, List.zip_nil_left, List.zip_cons_cons, Bool.false_eq_true, if_false, setAll, List.set_cons_zero, List.set_cons_succ, x1, ec, x2, x3, sl 1 (by decide), sl 2 (by decide), part_n, part_i, wp_slcS, wp_alloc]
  refine ⟨sl _ (by omega), ?_⟩
  rw [wp_mulL at_push (by omega) (by omega) (by rw [Int.toNat_natCast, sizeLine_eq]; simp only [List.length_cons, List.length_nil]; omega)]
  have efl : (List.replicate ((wh : Int)).toNat [MV.str t]).flatten = List.replicate wh (.str t) := by
    rw [Int.toNat_natCast]
    clear htold x2 x3 hw
    induction wh with
    | zero => rfl
    | succ j ih => rw [List.replicate_succ, List.flatten_cons, ih, List.replicate_succ]; rfl
  rw [efl]
  have h1 : (u' ++ [Cell.lst [MV.str t]] ++ [Cell.lst (List.replicate wh (.str t))])[(u' ++ [Cell.lst [MV.str t]]).length]? = some (.lst (List.replicate wh (.str t))) := at_push
  have f1 : Fr u' (u' ++ [Cell.lst [MV.str t]] ++ [Cell.lst (List.replicate wh (.str t))]) [] := Fr.push.trans .push (fun _ _ h => h)
  obtain ⟨D, hD⟩ : ∃ D, D = (u' ++ [Cell.lst [MV.str t]]).length := ⟨_, rfl⟩
  have hDb : b ≠ D := by have := bu.lt; rw [hD, List.length_append]; omega
  rw [← hD] at h1 ⊢
  have b1 := bu.fr f1 (by simp) (Nat.le_refl _)
  generalize (u' ++ [Cell.lst [MV.str t]] ++ [Cell.lst (List.replicate wh (.str t))]) = u1 at h1 f1 b1
  refine ht b1 (by omega) fun turn u2 f2 b2 => ?_
  have h2 := f2.at h1 (by rw [List.mem_singleton]; exact Ne.symm hDb)
  exact htold h2 fun w' f => q w' (((fu.trans f1 (fun _ _ h => by cases h)).trans f2 (fun _ _ h => h)).trans f (fun _ _ h => by cases h)) (b2.fr f (by simp) (by omega))
theorem many_right_ok (hb : Box w b K) (hK : K + 100 < 2 ^ 36) (q : ∀ w', Fr w w' [b] → Box w' b (K + 10) → Q (.bl true) w') : wp (callF T (n + 4) ("_law_many_right", none) [.ref b] []) Q NoE w := by
  refine wp_call (d := d__law_many_right) rfl (bind1 (p := "_law_box_here")) ?_
  unfold d__law_many_right
  have hbl := hb.lt
  refine xw_seq (I := fun S u => ∃ (m less : Nat) (t : Str) (M L : MV), S = [some (.ref b), none, some M, some (.str t), some L, none, none] ∧ M = .int m ∧ L = .int less ∧ 130 ≤ m ∧ m ≤ 1900 ∧ less < 97 ∧ StrP okP 1 t ∧ Fr w u [b] ∧ Box u b (K + 3)) ?_ ?_
  · simp only [startS, List.map_cons, List.map_nil, List.length_cons, List.length_nil, Nat.reduceAdd, Nat.reduceSub, List.replicate_succ, List.replicate_zero, List.cons_append, List.nil_append, List.append_nil, xw_cons, xw_nil, mEqs, xw_bnd, wp_bnd, wp_ret, xw_ret, wp_var, List.getElem?_cons_zero, List.getElem?_cons_succ, Ds.at, wp_if, opEqs, wp_ite, if_true, fn_eq, List.zip_nil_left, List.zip_cons_cons, Bool.false_eq_true, if_false, setAll, List.set_cons_zero, List.set_cons_succ, sl 3 (by decide), sl 4 (by decide), wp_alloc]
    have b0 : Box (w ++ [Cell.lst [.int 130, .int 700, .int 1100, .int 1900]]) b K := hb.fr (ns := []) .push (by simp) (Nat.le_refl _)
    refine take1 b0 (by omega) (by decide) (by decide) fun i w1 i0 i1 f1 b1 => ?_
    have h1 : w1[w.length]? = some (.lst [.int 130, .int 700, .int 1100, .int 1900]) := f1.at at_push (by rw [List.mem_singleton]; omega)
    have F1 : Fr w w1 [b] := (Fr.push (ns := [b])).trans f1 (fun _ _ h => h)
    obtain ⟨m, hm, m0, m1⟩ : ∃ m : Nat, atI [MV.int 130, .int 700, .int 1100, .int 1900] i = some (.int m) ∧ 130 ≤ m ∧ m ≤ 1900 := by
      have : i = 0 ∨ i = 1 ∨ i = 2 ∨ i = 3 := by omega
      rcases this with rfl | rfl | rfl | rfl
      · exact ⟨130, rfl, by decide, by decide⟩
      · exact ⟨700, rfl, by decide, by decide⟩
      · exact ⟨1100, rfl, by decide, by decide⟩
      · exact ⟨1900, rfl, by decide, by decide⟩
    rw [wp_idxL h1 hm]
    have hb1 := b1.lt
    have b2 : Box (w1 ++ [Cell.lst [.str "", .str "0", .str ".", .str "a"]]) b (K + 1) := b1.fr (ns := []) .push (by simp) (Nat.le_refl _)
    refine take1 b2 (by omega) (by decide) (by decide) fun j w2 j0 j1 f2 b3 => ?_
    have h2 : w2[w1.length]? = some (.lst [.str "", .str "0", .str ".", .str "a"]) := f2.at at_push (by rw [List.mem_singleton]; omega)
    obtain ⟨t, ht, tP⟩ : ∃ t : Str, atI [MV.str "", .str "0", .str ".", .str "a"] j = some (.str t) ∧ StrP okP 1 t := by
      have : j = 0 ∨ j = 1 ∨ j = 2 ∨ j = 3 := by omega
      rcases this with rfl | rfl | rfl | rfl
      · exact ⟨_, rfl, StrP.of (by decide +kernel)⟩
      · exact ⟨_, rfl, StrP.of (by decide +kernel)⟩
      · exact ⟨_, rfl, StrP.of (by decide +kernel)⟩
      · exact ⟨_, rfl, StrP.of (by decide +kernel)⟩
    rw [wp_idxL h2 ht]
    refine take1 b3 (by omega) (by decide) (by decide) fun z w3 z0 z1 f3 b4 => ?_
    obtain ⟨less, rfl⟩ : ∃ less : Nat, z = less := ⟨z.toNat, by omega⟩
    exact ⟨m, less, t, _, _, rfl, rfl, rfl, m0, m1, by omega, tP, ((F1.trans .push (fun _ _ h => h)).trans f2 (fun _ _ h => h)).trans f3 (fun _ _ h => h), b4⟩
  rintro S u ⟨m, less, t, M, L, rfl, hM, hL, m0, m1, hless, tP, fu, bu⟩
  have tl := tP.le
  have hF := frS_sg (tP.mono (by decide))
  have fl := frS_len (t := t) (by omega)
  obtain ⟨sz, hsz⟩ : ∃ sz : Nat, sz = t.length + 5 := ⟨_, rfl⟩
  obtain ⟨P, hP⟩ : ∃ P : Nat, P = m * sz := ⟨_, rfl⟩
  have hms : P ≤ 11400 := by
    rw [hP]
    have := Nat.mul_le_mul m1 (by omega : sz ≤ 6)
    omega
  have hms2 : 650 ≤ P := by
    rw [hP]
    have := Nat.mul_le_mul m0 (by omega : 5 ≤ sz)
    omega
  obtain ⟨c, hc⟩ : ∃ c : Nat, c = P - less := ⟨_, rfl⟩
  have eP : (m : Int) * (sz : Int) = (P : Int) := by rw [hP]; push_cast; rfl
  have ec : (P : Int) - (less : Int) = (c : Int) := by omega
  have hcm : c / sz ≤ m := by
    have : c / sz ≤ (m * sz) / sz := Nat.div_le_div_right (by omega)
    rw [Nat.mul_div_cancel _ (by omega)] at this
    exact this
  obtain ⟨wh, hwh⟩ : ∃ wh : Nat, wh = c / sz := ⟨_, rfl⟩
  have ed : (c : Int) / (sz : Int) = (wh : Int) := by rw [hwh]; push_cast; rfl
  have lsz : ((sz : Int)).natAbs.log2 < 9000 := Nat.lt_trans (log04 (by omega)) (by omega)
  have x1 : ∀ {R : MV → Wd → Prop} {E : Exn → Wd → Prop} {u : Wd}, wp (binM .Mult (.int (m : Int)) (.int (sz : Int))) R E u = R (.int (P : Int)) u := fun {R E u} => by rw [wp_mul _ _ (ml _ (by omega) _), eP]
  obtain ⟨G, hG⟩ : ∃ G : Nat, G = wh * sz := ⟨_, rfl⟩
  have eG : (wh : Int) * (sz : Int) = (G : Int) := by rw [hG]; push_cast; rfl
  have x2 : ∀ {R : MV → Wd → Prop} {E : Exn → Wd → Prop} {u : Wd}, wp (binM .Mult (.int (wh : Int)) (.int (sz : Int))) R E u = R (.int (G : Int)) u := fun {R E u} => by rw [wp_mul _ _ (ml _ (by omega) _), eG]
  have x3 : ∀ {R : MV → Wd → Prop} {E : Exn → Wd → Prop} {u : Wd}, wp (binM .FloorDiv (.int (c : Int)) (.int (sz : Int))) R E u = R (.int (wh : Int)) u := fun {R E u} => by
    rw [wp_fdiv, ed]
    exact propext ⟨fun h => h.2, fun h => ⟨⟨by omega, lsz⟩, h⟩⟩
  have RL : (Txt.mul (frS t) (m : Int)).length = P := by
    rw [mul_len, Int.toNat_natCast, fl, ← hsz, hP]
    exact Nat.mul_comm _ _
  have RC : cs (Txt.mul (frS t) (m : Int)) = rowL (List.replicate m (cs t)) := by
    rw [cs_mul, Int.toNat_natCast]
    unfold rowL frS
    rw [cs_mk, List.map_replicate]
  have RP : StrP okP 100000 (Txt.mul (frS t) (m : Int)) := ⟨by omega, (hF.mul (M := m) (n := (m : Int)) (by omega)).al⟩
  have hp : (frS t).length * m = P := by rw [fl, ← hsz, hP]; exact Nat.mul_comm _ _
  have e5 : (t.length : Int) + 5 = (sz : Int) := by omega
  obtain ⟨RR, hRR⟩ : ∃ RR : Str, RR = Txt.mul (frS t) (m : Int) := ⟨_, rfl⟩
  have x4 : ∀ {R : MV → Wd → Prop} {E : Exn → Wd → Prop} {u : Wd}, R (.str RR) u → wp (binM .Mult (.str (frS t)) M) R E u := fun {R E u} h => by
    rw [hM, wp_mulS, ← hRR, Int.toNat_natCast, hp]
    exact ⟨⟨by omega, by omega, by omega⟩, h⟩
  rw [← hRR] at RL RC RP
  have hwm : wh ≤ m := by omega
  have hRD : rd (cs (cutS RR none (some (c : Int)))) = (List.replicate wh (cs t), G) := by
    rw [cs_cut, cutL_pre, RC, hG, hwh, hsz]
    have hcl : (cs t).length = t.length := cs_len t
    rw [← hcl]
    refine rep_rd (by omega) ?_ (by rw [hcl, ← hsz]; exact hcm)
    rw [hcl, ← hsz, Nat.succ_mul]
    omega
  have hSP : StrP okP 100000 (cutS RR none (some (c : Int))) := RP.cut none (some (c : Int))
  have hstv : stv (List.replicate wh (cs t)) = List.replicate wh (.str t) := by
    unfold stv
    rw [List.map_replicate, mk_cs]
  refine xw_seq (I := fun S u' => ∃ Z : MV, S = [some (.ref b), none, some M, some (.str t), some L, some (.str RR), some Z] ∧ Z = .int (sz : Int) ∧ u' = u) ?_ ?_
  · simp only [startS, List.map_cons, List.map_nil, List.length_cons, List.length_nil, Nat.reduceAdd, Nat.reduceSub, List.replicate_succ, List.replicate_zero, List.cons_append, List.nil_append, List.append_nil, xw_cons, xw_nil, mEqs, xw_bnd, wp_bnd, wp_ret, xw_ret, wp_var, List.getElem?_cons_zero, List.getElem?_cons_succ, Ds.at, wp_if, opEqs, wp_ite, if_true, fn_eq, List.zip_nil_left, List.zip_cons_cons, Bool.false_eq_true, if_false, setAll, List.set_cons_zero, List.set_cons_succ, sl 2 (by decide)]
    refine frame_ok (n := n + 2) (by omega) ?_
    refine x4 ?_
    simp only [wp_lenS, startS, List.map_cons, List.map_nil, List.length_cons, List.length_nil, Nat.reduceAdd, Nat.reduceSub, List.replicate_succ, List.replicate_zero, List.cons_append, List.nil_append, List.append_nil, xw_cons, xw_nil, mEqs, xw_bnd, wp_bnd, wp_ret, xw_ret, wp_var, List.getElem?_cons_zero, List.getElem?_cons_succ, Ds.at, wp_if, opEqs, wp_ite, if_true, fn_eq, List.zip_nil_left, List.zip_cons_cons, Bool.false_eq_true, if_false, setAll, List.set_cons_zero, List.set_cons_succ, e5]
    exact ⟨sl _ (by omega), by first | exact ⟨_, rfl, rfl, rfl⟩ | exact ⟨_, rfl, rfl, trivial⟩ | exact ⟨_, rfl, rfl⟩⟩
  rintro S u' ⟨Z, rfl, hZ, rfl⟩
  have y1 : ∀ {R : MV → Wd → Prop} {E : Exn → Wd → Prop} {u : Wd}, wp (binM .Mult M Z) R E u = R (.int (P : Int)) u := fun {R E u} => by rw [hM, hZ, x1]
  have y2 : ∀ {R : MV → Wd → Prop} {E : Exn → Wd → Prop} {u : Wd}, wp (binM .Mult (.int (wh : Int)) Z) R E u = R (.int (G : Int)) u := fun {R E u} => by rw [hZ, x2]
  have y3 : ∀ {R : MV → Wd → Prop} {E : Exn → Wd → Prop} {u : Wd}, wp (binM .FloorDiv (.int (c : Int)) Z) R E u = R (.int (wh : Int)) u := fun {R E u} => by rw [hZ, x3]
  have y4 : ∀ {R : MV → Wd → Prop} {E : Exn → Wd → Prop} {u : Wd}, wp (binM .Sub (.int (P : Int)) L) R E u = R (.int (c : Int)) u := fun {R E u} => by
    rw [hL, ← ec]
    rfl
  clear hM hL hZ x1 x2 x3 x4
  exact many_tail (C := T.calls (callF T (n + 3))) (fun hb hK h => take1 (n := n + 2) hb hK (by decide) (by decide) fun d w' _ _ f g => h d w' f g) (fun {R u turn d} hd h => by
    have told := told_ok (n := n) (s := cutS RR none (some (c : Int))) (d := d) (turn := turn) (w := u) (Q := R) (E := NoE) hSP (by rw [hRD, hstv]; exact hd) h
    rw [hRD] at told
    exact told) fu bu hK hbl y1 y4 y2 y3 (by omega) (by omega) q
end
end K05
set_option Elab.async false
set_option linter.all false
set_option maxRecDepth 100000
set_option maxHeartbeats 4000000
namespace K05
open PySem Mir L2 TL
section
variable {n b K : Nat} {w : Wd} {v : MV} {k : Kd} {Q : MV → Wd → Prop}
theorem right_ok {great : Bool} (hb : Box w b K) (hK : K + 5000 < 2 ^ 36) (q : ∀ w', Fr w w' [b] → Box w' b (K + 1000) → Q (.bl true) w') : wp (callF T (n + 6) ("_law_right", none) [.ref b, .bl great] []) Q NoE w := by
  refine wp_call (d := d__law_right) (as := [.ref b, .bl great]) rfl rfl ?_
  unfold d__law_right
  have hbl := hb.lt
  refine xw_seq (I := fun S u => ∃ (turn : Int) (r : Nat) (ts : List Str), S = [some (.ref b), some (.bl great), some (.int turn), some (.ref r)] ∧ Txs5 ts ∧ u[r]? = some (.lst (ts.map MV.str)) ∧ b ≠ r ∧ Fr w u [b] ∧ Box u b (K + 301)) ?_ ?_
  · simp only [startS, List.map_cons, List.map_nil, List.length_cons, List.length_nil, Nat.reduceAdd, Nat.reduceSub, List.replicate_succ, List.replicate_zero, List.cons_append, List.nil_append, List.append_nil, xw_cons, xw_nil, mEqs, xw_bnd, wp_bnd, wp_ret, xw_ret, wp_var, List.getElem?_cons_zero, List.getElem?_cons_succ, Ds.at, wp_if, opEqs, wp_ite, if_true, fn_eq, List.zip_nil_left, List.zip_cons_cons, Bool.false_eq_true, if_false, setAll, List.set_cons_zero, List.set_cons_succ, sl 2 (by decide)]
    refine take1 hb (by omega) (by decide) (by decide) fun turn w1 _ _ f1 b1 => ?_
    refine texts_ok (n := n + 2) b1 (by omega) fun ts r w2 hr al sm ln f2 b2 h2 => ?_
    have := f1.le
    exact ⟨turn, r, ts, rfl, ⟨al, sm, ln⟩, h2, by omega, f1.trans f2 (fun _ _ h => h), b2.mono (by omega)⟩
  rintro S u ⟨turn, r, ts, rfl, tx, hr, hbr, fu, bu⟩
  refine xw_seq (I := fun S u' => S = [some (.ref b), some (.bl great), some (.int turn), some (.ref r)] ∧ Fr w u' [b] ∧ Box u' b (K + 600)) ?_ ?_
  · simp only [startS, List.map_cons, List.map_nil, List.length_cons, List.length_nil, Nat.reduceAdd, Nat.reduceSub, List.replicate_succ, List.replicate_zero, List.cons_append, List.nil_append, List.append_nil, xw_cons, xw_nil, mEqs, xw_bnd, wp_bnd, wp_ret, xw_ret, wp_var, List.getElem?_cons_zero, List.getElem?_cons_succ, Ds.at, wp_if, opEqs, wp_ite, if_true, fn_eq, List.zip_nil_left, List.zip_cons_cons, Bool.false_eq_true, if_false, setAll, List.set_cons_zero, List.set_cons_succ]
    refine cut_right_ok (n := n) tx hr bu hbr (by omega) fun w1 f1 b1 => ?_
    have h1 := f1.at hr (by rw [List.mem_singleton]; exact Ne.symm hbr)
    try simp only [startS, List.map_cons, List.map_nil, List.length_cons, List.length_nil, Nat.reduceAdd, Nat.reduceSub, List.replicate_succ, List.replicate_zero, List.cons_append, List.nil_append, List.append_nil, xw_cons, xw_nil, mEqs, xw_bnd, wp_bnd, wp_ret, xw_ret, wp_var, List.getElem?_cons_zero, List.getElem?_cons_succ, Ds.at, wp_if, opEqs, wp_ite, if_true, fn_eq, List.zip_nil_left, List.zip_cons_cons, Bool.false_eq_true, if_false, setAll, List.set_cons_zero, List.set_cons_succ, Bool.not_true]
    refine spoilt_right_ok (n := n) tx h1 b1 hbr (by omega) fun w2 f2 b2 => ?_
    try simp only [startS, List.map_cons, List.map_nil, List.length_cons, List.length_nil, Nat.reduceAdd, Nat.reduceSub, List.replicate_succ, List.replicate_zero, List.cons_append, List.nil_append, List.append_nil, xw_cons, xw_nil, mEqs, xw_bnd, wp_bnd, wp_ret, xw_ret, wp_var, List.getElem?_cons_zero, List.getElem?_cons_succ, Ds.at, wp_if, opEqs, wp_ite, if_true, fn_eq, List.zip_nil_left, List.zip_cons_cons, Bool.false_eq_true, if_false, setAll, List.set_cons_zero, List.set_cons_succ, Bool.not_true]
    refine ⟨?_, (fu.trans f1 (fun _ _ h => h)).trans f2 (fun _ _ h => h), b2.mono (by omega)⟩
    first | rfl | trivial
  rintro S u' ⟨rfl, fu', bu'⟩
  simp only [startS, List.map_cons, List.map_nil, List.length_cons, List.length_nil, Nat.reduceAdd, Nat.reduceSub, List.replicate_succ, List.replicate_zero, List.cons_append, List.nil_append, List.append_nil, xw_cons, xw_nil, mEqs, xw_bnd, wp_bnd, wp_ret, xw_ret, wp_var, List.getElem?_cons_zero, List.getElem?_cons_succ, Ds.at, wp_if, opEqs, wp_ite, if_true, fn_eq, List.zip_nil_left, List.zip_cons_cons, Bool.false_eq_true, if_false, setAll, List.set_cons_zero, List.set_cons_succ]
  refine text_ok (n := n + 3) bu' (by omega) fun t w1 ht f1 b1 => ?_
  refine doors_ok (n := n + 1) ht b1 (by omega) fun w2 f2 b2 => ?_
  exact q w2 ((fu'.trans f1 (fun _ _ h => h)).trans f2 (fun _ _ h => h)) (b2.mono (by omega))
end
end K05
set_option Elab.async false
set_option linter.all false
set_option maxRecDepth 100000
set_option maxHeartbeats 4000000
namespace K05
open PySem Mir L2 TL
theorem ans (n : Nat) (ns : List Int) : ∃ W', callF T (n + 9) ("law", none) [.ref 0] [] [.rdl (ns.map MV.int)] = .ok (.bl true) W' := by
  have main : wp (callF T (n + 9) ("law", none) [.ref 0] []) (fun v _ => v = .bl true) NoE [.rdl (ns.map MV.int)] := by
    refine wp_call (d := d_law) rfl (bind1 (p := "_law_script")) ?_
    unfold d_law
    refine xw_seq (I := fun _ _ => True) ?_ ?_
    · simp only [startS, List.map_cons, List.map_nil, List.length_cons, List.length_nil, Nat.reduceAdd, Nat.reduceSub, List.replicate_succ, List.replicate_zero, List.cons_append, List.nil_append, List.append_nil, xw_cons, xw_nil, mEqs, xw_bnd, wp_bnd, wp_ret, xw_ret, wp_var, List.getElem?_cons_zero, List.getElem?_cons_succ, Ds.at, wp_if, opEqs, wp_ite, if_true, fn_eq, List.zip_nil_left, List.zip_cons_cons, Bool.false_eq_true, if_false, setAll, List.set_cons_zero, List.set_cons_succ, wp_len, List.length_map]
      generalize hj : (if (if (ns.length : Int) < 4 then (ns.length : Int) else 4) > 2 then (if (ns.length : Int) < 4 then (ns.length : Int) else 4) else 2) = j
      have hj0 : 0 ≤ j ∧ j < 100 := by
        rw [← hj]
        split <;> (try split) <;> omega
      rw [wp_rng (by omega) (by omega)]
      refine wp_for (fun _ S w => (∃ x y, S = [some (.ref 0), x, y]) ∧ w[0]? = some (.rdl (ns.map MV.int))) _ 0 _ _ (Nat.zero_add _) ⟨⟨_, _, rfl⟩, rfl⟩ (fun i S w hi ⟨⟨x, y, hS⟩, hw⟩ => ⟨.int (0 + i), if_pos hi, ?_⟩) (fun S w hI => ⟨rfl, trivial⟩)
      subst hS
      obtain ⟨z, hz⟩ : ∃ z : Int, z = 0 + (i : Int) := ⟨_, rfl⟩
      rw [← hz]
      refine xw_seq (I := fun S u => ∃ b : Nat, S = [some (.ref 0), some (.int z), some (.ref b)] ∧ u[0]? = some (.rdl (ns.map MV.int)) ∧ b ≠ 0 ∧ Box u b 0) ?_ ?_
      · simp only [startS, List.map_cons, List.map_nil, List.length_cons, List.length_nil, Nat.reduceAdd, Nat.reduceSub, List.replicate_succ, List.replicate_zero, List.cons_append, List.nil_append, List.append_nil, xw_cons, xw_nil, mEqs, xw_bnd, wp_bnd, wp_ret, xw_ret, wp_var, List.getElem?_cons_zero, List.getElem?_cons_succ, Ds.at, wp_if, opEqs, wp_ite, if_true, fn_eq, List.zip_nil_left, List.zip_cons_cons, Bool.false_eq_true, if_false, setAll, List.set_cons_zero, List.set_cons_succ]
        refine cell_ok (n := n + 7) (p := "_law_script") (q := "_law_k") (c1 := 6029) (c2 := 1000033) rfl (by decide) (by decide) (by decide) hw (by omega) fun a w1 f1 => ?_
        refine box_ok (n := n + 7) (p := "_law_great") rfl fun b w2 hb f2 B2 => ?_
        have hw2 : w2[0]? = some (.rdl (ns.map MV.int)) := f2.at (f1.at hw (by simp)) (by simp)
        refine ⟨b, rfl, hw2, fun z => ?_, B2⟩
        have := f1.le
        have := lt_of_at hw
        omega
      rintro S u ⟨b, rfl, hu, hb0, B⟩
      simp only [startS, List.map_cons, List.map_nil, List.length_cons, List.length_nil, Nat.reduceAdd, Nat.reduceSub, List.replicate_succ, List.replicate_zero, List.cons_append, List.nil_append, List.append_nil, xw_cons, xw_nil, mEqs, xw_bnd, wp_bnd, wp_ret, xw_ret, wp_var, List.getElem?_cons_zero, List.getElem?_cons_succ, Ds.at, wp_if, opEqs, wp_ite, if_true, fn_eq, List.zip_nil_left, List.zip_cons_cons, Bool.false_eq_true, if_false, setAll, List.set_cons_zero, List.set_cons_succ]
      have fin : ∀ (great : Bool) {u1 : Wd} {R : MV → Wd → Prop}, Fr u u1 [b] → Box u1 b 1 → (∀ u2, Fr u u2 [b] → Box u2 b 2000 → R (.bl true) u2) → wp (callF T (n + 8) ("_law_right", none) [.ref b, .bl great] []) R NoE u1 := fun great {u1 R} f B1 h => right_ok (n := n + 2) B1 (by decide) fun u2 g B2 => h u2 (f.trans g (fun _ _ h => h)) (B2.mono (by omega))
      refine take1 (n := n + 7) B (by decide) (by decide) (by decide) fun d u1 _ _ f1 B1 => ?_
      rw [wp_eqI]
      try simp only [opEqs, wp_ret]
      split
      · try rw [wp_eqI]
        refine fin _ f1 B1 fun u2 g2 C2 => ?_
        try simp only [startS, List.map_cons, List.map_nil, List.length_cons, List.length_nil, Nat.reduceAdd, Nat.reduceSub, List.replicate_succ, List.replicate_zero, List.cons_append, List.nil_append, List.append_nil, xw_cons, xw_nil, mEqs, xw_bnd, wp_bnd, wp_ret, xw_ret, wp_var, List.getElem?_cons_zero, List.getElem?_cons_succ, Ds.at, wp_if, opEqs, wp_ite, if_true, fn_eq, List.zip_nil_left, List.zip_cons_cons, Bool.false_eq_true, if_false, setAll, List.set_cons_zero, List.set_cons_succ, Bool.not_true, wp_eqI]
        split
        · refine many_right_ok (n := n + 4) C2 (by decide) fun u3 g3 C3 => ?_
          try simp only [startS, List.map_cons, List.map_nil, List.length_cons, List.length_nil, Nat.reduceAdd, Nat.reduceSub, List.replicate_succ, List.replicate_zero, List.cons_append, List.nil_append, List.append_nil, xw_cons, xw_nil, mEqs, xw_bnd, wp_bnd, wp_ret, xw_ret, wp_var, List.getElem?_cons_zero, List.getElem?_cons_succ, Ds.at, wp_if, opEqs, wp_ite, if_true, fn_eq, List.zip_nil_left, List.zip_cons_cons, Bool.false_eq_true, if_false, setAll, List.set_cons_zero, List.set_cons_succ, Bool.not_true]
          exact ⟨⟨_, _, rfl⟩, g3.at (g2.at hu (by rw [List.mem_singleton]; exact Ne.symm hb0)) (by rw [List.mem_singleton]; exact Ne.symm hb0)⟩
        · have hz1 : (z == 1) = false := by
            have := ‹¬ (z == 1) = true›
            simpa using this
          try simp only [hz1, startS, List.map_cons, List.map_nil, List.length_cons, List.length_nil, Nat.reduceAdd, Nat.reduceSub, List.replicate_succ, List.replicate_zero, List.cons_append, List.nil_append, List.append_nil, xw_cons, xw_nil, mEqs, xw_bnd, wp_bnd, wp_ret, xw_ret, wp_var, List.getElem?_cons_zero, List.getElem?_cons_succ, Ds.at, wp_if, opEqs, wp_ite, if_true, fn_eq, List.zip_nil_left, List.zip_cons_cons, Bool.false_eq_true, if_false, setAll, List.set_cons_zero, List.set_cons_succ]
          exact ⟨⟨_, _, rfl⟩, g2.at hu (by rw [List.mem_singleton]; exact Ne.symm hb0)⟩
      · refine fin _ f1 B1 fun u2 g2 C2 => ?_
        try simp only [startS, List.map_cons, List.map_nil, List.length_cons, List.length_nil, Nat.reduceAdd, Nat.reduceSub, List.replicate_succ, List.replicate_zero, List.cons_append, List.nil_append, List.append_nil, xw_cons, xw_nil, mEqs, xw_bnd, wp_bnd, wp_ret, xw_ret, wp_var, List.getElem?_cons_zero, List.getElem?_cons_succ, Ds.at, wp_if, opEqs, wp_ite, if_true, fn_eq, List.zip_nil_left, List.zip_cons_cons, Bool.false_eq_true, if_false, setAll, List.set_cons_zero, List.set_cons_succ, Bool.not_true, wp_eqI]
        split
        · refine many_right_ok (n := n + 4) C2 (by decide) fun u3 g3 C3 => ?_
          try simp only [startS, List.map_cons, List.map_nil, List.length_cons, List.length_nil, Nat.reduceAdd, Nat.reduceSub, List.replicate_succ, List.replicate_zero, List.cons_append, List.nil_append, List.append_nil, xw_cons, xw_nil, mEqs, xw_bnd, wp_bnd, wp_ret, xw_ret, wp_var, List.getElem?_cons_zero, List.getElem?_cons_succ, Ds.at, wp_if, opEqs, wp_ite, if_true, fn_eq, List.zip_nil_left, List.zip_cons_cons, Bool.false_eq_true, if_false, setAll, List.set_cons_zero, List.set_cons_succ, Bool.not_true]
          exact ⟨⟨_, _, rfl⟩, g3.at (g2.at hu (by rw [List.mem_singleton]; exact Ne.symm hb0)) (by rw [List.mem_singleton]; exact Ne.symm hb0)⟩
        · have hz1 : (z == 1) = false := by
            have := ‹¬ (z == 1) = true›
            simpa using this
          try simp only [hz1, startS, List.map_cons, List.map_nil, List.length_cons, List.length_nil, Nat.reduceAdd, Nat.reduceSub, List.replicate_succ, List.replicate_zero, List.cons_append, List.nil_append, List.append_nil, xw_cons, xw_nil, mEqs, xw_bnd, wp_bnd, wp_ret, xw_ret, wp_var, List.getElem?_cons_zero, List.getElem?_cons_succ, Ds.at, wp_if, opEqs, wp_ite, if_true, fn_eq, List.zip_nil_left, List.zip_cons_cons, Bool.false_eq_true, if_false, setAll, List.set_cons_zero, List.set_cons_succ]
          exact ⟨⟨_, _, rfl⟩, g2.at hu (by rw [List.mem_singleton]; exact Ne.symm hb0)⟩
    · intro S' w' _
      simp only [startS, List.map_cons, List.map_nil, List.length_cons, List.length_nil, Nat.reduceAdd, Nat.reduceSub, List.replicate_succ, List.replicate_zero, List.cons_append, List.nil_append, List.append_nil, xw_cons, xw_nil, mEqs, xw_bnd, wp_bnd, wp_ret, xw_ret, wp_var, List.getElem?_cons_zero, List.getElem?_cons_succ, Ds.at, wp_if, opEqs, wp_ite, if_true, fn_eq, List.zip_nil_left, List.zip_cons_cons, Bool.false_eq_true, if_false, setAll, List.set_cons_zero, List.set_cons_succ]
  obtain ⟨v, w', e, rfl⟩ := of_wp main
  exact ⟨w', e⟩
end K05
set_option Elab.async false
set_option linter.all false
set_option maxRecDepth 100000
set_option maxHeartbeats 0
open PySem PySem.W PySem.Calls PyProof.Rows
theorem PySem.Challenge.cw_neverunsaid_k05_frames_and_cuts_holds : PySem.Challenge.rw_neverunsaid_k05_frames_and_cuts.Holds := by
  w_on; o_law
  refine HandSHeadRun.head_any (r := OpenLaw.row PySem.Challenge.rw_neverunsaid_k05_frames_and_cuts) (q := K05.qv) (H := K05.hk) (ob := K05.ob) (M := 20000) (loose := K05.names) (d := HandSHeadRun.topDef (OpenLaw.row PySem.Challenge.rw_neverunsaid_k05_frames_and_cuts).prog 34) (kwd := []) K05.ob_eq
    (by kernel_rfl) (fun s => by kernel_rfl) K05.run (by kernel_rfl) (by kernel_rfl) (by kernel_rfl) (by rfl) (by first | assumption | decide +kernel) (by decide +kernel) ⟨rfl, rfl, rfl, rfl, rfl, by decide +kernel⟩ ?hw ?hc
  case hw => w_witness2
  case hc =>
    exact Mir.walkM (l := PySem.Challenge.rw_neverunsaid_k05_frames_and_cuts) (n := 63) (m := 20) (lawN := "law") (lawD := K05.d_law) rfl (by decide) (by kernel_rfl) (by kernel_rfl) K05.txs ⟨⟨rfl, by decide, by decide⟩, rfl⟩ (by rfl) fun ns hl _ => K05.ans 12 ns
