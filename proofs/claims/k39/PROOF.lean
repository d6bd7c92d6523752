import PyProof.Rows.All
import Wide.All
import OpenK.AllK
import Wide.FinOn
import HandS.ForMost
import HandS.WordsExc
import HandS.Defaults
import HandS.Wide
import HandS.WideBits
import HandS.IsInst
import HandS.Flow
import HandS.NoneIn
import HandS.Style
import HandS.Exc
import HandS.Flt
import HandS.ExcOwn
import HandS.ExcCtx
import HandS.CallSlots
import HandS.Head0
import HandS.Head1
import HandS.Head2
import HandS.HeadEnd
import HandS.HeadHook1
import HandS.HeadHook2
import HandS.HeadHook3
import HandS.HeadHook4
import HandS.MakeKwOnly
import KE.KStateDown
import PySem.Challenge.RW_scaledesk_k39_whole_laws_of_numbers
set_option Elab.async false
set_option linter.all false
set_option maxRecDepth 100000
section
/-! VA: a small Python, run: values, the heap, the operations, the runner. Own work. -/
namespace VI

abbrev Tx := List Nat
inductive VV where
  | non
  | bl (b : Bool)
  | int (i : Int)
  | str (s : Tx)
  | tup (xs : List VV)
  | ref (n : Nat)
  | fn (n : Nat)
  | cls (n : Nat)
  | dc (n : Nat)
inductive VO where
  | lst (xs : List VV)
  | frz (xs : List VV)
  | dct (kvs : List (VV × VV))
  | ins (c : Nat) (fs : List (Nat × VV))
  | exo (c : Nat) (fs : List (Nat × VV))

/-! ### the heap: a tree by binary places -/
inductive BT where
  | nil
  | node (l : BT) (o : Option VO) (r : BT)
def BT.get : BT → Nat → Option VO
  | .nil, _ => none
  | .node l o r, i => match Nat.beq i 0 with
    | true => o
    | false => match Nat.beq (i % 2) 1 with
      | true => l.get (i / 2)
      | false => r.get (i / 2 - 1)
def BT.one : Nat → Nat → VO → BT
  | 0, _, v => .node .nil (some v) .nil
  | k + 1, i, v => match Nat.beq i 0 with
    | true => .node .nil (some v) .nil
    | false => match Nat.beq (i % 2) 1 with
      | true => .node (BT.one k (i / 2) v) none .nil
      | false => .node .nil none (BT.one k (i / 2 - 1) v)
def BT.set : BT → Nat → VO → BT
  | .nil, i, v => BT.one i i v
  | .node l o r, i, v => match Nat.beq i 0 with
    | true => .node l (some v) r
    | false => match Nat.beq (i % 2) 1 with
      | true => .node (l.set (i / 2) v) o r
      | false => .node l o (r.set (i / 2 - 1) v)
theorem beq_t {i j : Nat} (h : Nat.beq i j = true) : i = j := Nat.eq_of_beq_eq_true h
theorem beq_f {i j : Nat} (h : Nat.beq i j = false) : i ≠ j := Nat.ne_of_beq_eq_false h
theorem beq_ne {i j : Nat} (h : i ≠ j) : Nat.beq i j = false := by
  cases e : Nat.beq i j with
  | false => rfl
  | true => exact absurd (beq_t e) h
theorem beq_rfl (i : Nat) : Nat.beq i i = true := Nat.beq_refl i
theorem half_odd {i j : Nat} (hi : i ≠ 0) (hj : j ≠ 0) (a : i % 2 = 1) (b : j % 2 = 1) (h : i ≠ j) : i / 2 ≠ j / 2 := by omega
theorem half_even {i j : Nat} (hi : i ≠ 0) (hj : j ≠ 0) (a : i % 2 ≠ 1) (b : j % 2 ≠ 1) (h : i ≠ j) : i / 2 - 1 ≠ j / 2 - 1 := by omega
theorem BT.get_nil (i : Nat) : BT.nil.get i = none := rfl
theorem BT.one_get : ∀ (k i j : Nat) (v : VO), i ≤ k → (BT.one k i v).get j = if j = i then some v else none := by
  intro k
  induction k with
  | zero =>
    intro i j v h
    have e : i = 0 := by omega
    subst e
    show (BT.node .nil (some v) .nil).get j = _
    unfold BT.get
    cases q : Nat.beq j 0 with
    | true => rw [if_pos (beq_t q)]
    | false =>
      rw [if_neg (beq_f q)]
      cases Nat.beq (j % 2) 1 <;> rfl
  | succ k ih =>
    intro i j v h
    unfold BT.one
    cases qi : Nat.beq i 0 with
    | true =>
      have e := beq_t qi
      subst e
      show (BT.node .nil (some v) .nil).get j = _
      unfold BT.get
      cases q : Nat.beq j 0 with
      | true => rw [if_pos (beq_t q)]
      | false =>
        rw [if_neg (beq_f q)]
        cases Nat.beq (j % 2) 1 <;> rfl
    | false =>
      have i0 := beq_f qi
      cases qo : Nat.beq (i % 2) 1 with
      | true =>
        have io := beq_t qo
        show (BT.node (BT.one k (i / 2) v) none .nil).get j = _
        unfold BT.get
        cases q : Nat.beq j 0 with
        | true =>
          have j0 := beq_t q
          rw [if_neg (by omega)]
        | false =>
          have j0 := beq_f q
          cases q2 : Nat.beq (j % 2) 1 with
          | true =>
            show (BT.one k (i / 2) v).get (j / 2) = _
            have j1 := beq_t q2
            rw [ih (i / 2) (j / 2) v (by omega)]
            by_cases e : j = i
            · rw [if_pos (by omega), if_pos e]
            · rw [if_neg (half_odd j0 i0 j1 io e), if_neg e]
          | false =>
            have j1 := beq_f q2
            show BT.nil.get _ = _
            rw [if_neg (by omega)]
            rfl
      | false =>
        have io := beq_f qo
        show (BT.node .nil none (BT.one k (i / 2 - 1) v)).get j = _
        unfold BT.get
        cases q : Nat.beq j 0 with
        | true =>
          have j0 := beq_t q
          rw [if_neg (by omega)]
        | false =>
          have j0 := beq_f q
          cases q2 : Nat.beq (j % 2) 1 with
          | true =>
            have j1 := beq_t q2
            show BT.nil.get _ = _
            rw [if_neg (by omega)]
            rfl
          | false =>
            have j1 := beq_f q2
            show (BT.one k (i / 2 - 1) v).get (j / 2 - 1) = _
            rw [ih (i / 2 - 1) (j / 2 - 1) v (by omega)]
            by_cases e : j = i
            · rw [if_pos (by omega), if_pos e]
            · rw [if_neg (half_even j0 i0 j1 io e), if_neg e]
theorem BT.get_set : ∀ (t : BT) (i j : Nat) (v : VO), (t.set i v).get j = if j = i then some v else t.get j := by
  intro t
  induction t with
  | nil =>
    intro i j v
    show (BT.one i i v).get j = _
    rw [BT.one_get i i j v (Nat.le_refl _)]
    rfl
  | node l o r ihl ihr =>
    intro i j v
    unfold BT.set
    cases qi : Nat.beq i 0 with
    | true =>
      have e := beq_t qi
      subst e
      show (BT.node l (some v) r).get j = _
      unfold BT.get
      cases q : Nat.beq j 0 with
      | true => rw [if_pos (beq_t q)]
      | false => rw [if_neg (beq_f q)]
    | false =>
      have i0 := beq_f qi
      cases qo : Nat.beq (i % 2) 1 with
      | true =>
        have io := beq_t qo
        show (BT.node (l.set (i / 2) v) o r).get j = _
        unfold BT.get
        cases q : Nat.beq j 0 with
        | true =>
          have j0 := beq_t q
          rw [if_neg (by omega)]
        | false =>
          have j0 := beq_f q
          cases q2 : Nat.beq (j % 2) 1 with
          | true =>
            have j1 := beq_t q2
            show (l.set (i / 2) v).get (j / 2) = _
            rw [ihl]
            by_cases e : j = i
            · rw [if_pos (by omega), if_pos e]
            · rw [if_neg (half_odd j0 i0 j1 io e), if_neg e]
          | false =>
            have j1 := beq_f q2
            show r.get _ = _
            rw [if_neg (by omega)]
      | false =>
        have io := beq_f qo
        show (BT.node l o (r.set (i / 2 - 1) v)).get j = _
        unfold BT.get
        cases q : Nat.beq j 0 with
        | true =>
          have j0 := beq_t q
          rw [if_neg (by omega)]
        | false =>
          have j0 := beq_f q
          cases q2 : Nat.beq (j % 2) 1 with
          | true =>
            have j1 := beq_t q2
            show l.get _ = _
            rw [if_neg (by omega)]
          | false =>
            have j1 := beq_f q2
            show (r.set (i / 2 - 1) v).get (j / 2 - 1) = _
            rw [ihr]
            by_cases e : j = i
            · rw [if_pos (by omega), if_pos e]
            · rw [if_neg (half_even j0 i0 j1 io e), if_neg e]

structure Hv where
  n : Nat
  t : BT
def Hv.get (h : Hv) (i : Nat) : Option VO := match Nat.blt i h.n with
  | true => h.t.get i
  | false => none
def Hv.put (h : Hv) (i : Nat) (o : VO) : Hv := ⟨h.n, h.t.set i o⟩
def Hv.new (h : Hv) (o : VO) : Hv := ⟨h.n + 1, h.t.set h.n o⟩
def Hv.empty : Hv := ⟨0, .nil⟩
theorem Hv.blt_t {i n : Nat} (h : i < n) : Nat.blt i n = true := Nat.ble_eq_true_of_le h
theorem Hv.get_lt {h : Hv} {i : Nat} {o : VO} (e : h.get i = some o) : i < h.n := by
  unfold Hv.get at e
  cases q : Nat.blt i h.n with
  | true => exact Nat.le_of_ble_eq_true q
  | false => rw [q] at e; cases e
theorem Hv.get_put (h : Hv) (i j : Nat) (o : VO) (hi : i < h.n) : (h.put i o).get j = if j = i then some o else h.get j := by
  unfold Hv.get Hv.put
  show (match Nat.blt j h.n with
    | true => (h.t.set i o).get j
    | false => none) = _
  rw [BT.get_set]
  by_cases e : j = i
  · subst e
    rw [Hv.blt_t hi, if_pos rfl]
  · rw [if_neg e, if_neg e]
theorem Hv.get_new (h : Hv) (j : Nat) (o : VO) : (h.new o).get j = if j = h.n then some o else h.get j := by
  unfold Hv.get Hv.new
  show (match Nat.blt j (h.n + 1) with
    | true => (h.t.set h.n o).get j
    | false => none) = _
  rw [BT.get_set]
  by_cases e : j = h.n
  · subst e
    rw [Hv.blt_t (Nat.lt_succ_self _), if_pos rfl, if_pos rfl]
  · rw [if_neg e]
    by_cases l : j < h.n
    · rw [Hv.blt_t (Nat.lt_succ_of_lt l), Hv.blt_t l, if_neg e]
    · have l1 : Nat.blt j h.n = false := by
        cases q : Nat.blt j h.n with
        | false => rfl
        | true => exact absurd (Nat.le_of_ble_eq_true q) l
      have l2 : Nat.blt j (h.n + 1) = false := by
        cases q : Nat.blt j (h.n + 1) with
        | false => rfl
        | true =>
          have : j < h.n + 1 := Nat.le_of_ble_eq_true q
          omega
      rw [l1, l2, if_neg e]
@[simp] theorem Hv.put_n (h : Hv) (i : Nat) (o : VO) : (h.put i o).n = h.n := rfl
@[simp] theorem Hv.new_n (h : Hv) (o : VO) : (h.new o).n = h.n + 1 := rfl

/-! ### results -/
inductive R (α : Type) where
  | ok (a : α) (h : Hv)
  | exc (c : Nat) (p : Option VV) (h : Hv)
  | fail
@[inline] def R.bind {α β : Type} (r : R α) (f : α → Hv → R β) : R β := match r with
  | .ok a h => f a h
  | .exc c p h => .exc c p h
  | .fail => .fail
@[simp] theorem R.bind_ok {α β : Type} (a : α) (h : Hv) (f : α → Hv → R β) : (R.ok a h).bind f = f a h := rfl
@[simp] theorem R.bind_exc {α β : Type} (c : Nat) (p : Option VV) (h : Hv) (f : α → Hv → R β) : (R.exc c p h).bind f = .exc c p h := rfl
@[simp] theorem R.bind_fail {α β : Type} (f : α → Hv → R β) : (R.fail : R α).bind f = .fail := rfl
abbrev Sl := List (Option VV)
inductive RS where
  | nx (σ : Sl) (h : Hv)
  | rt (v : VV) (h : Hv)
  | bk (σ : Sl) (h : Hv)
  | ct (σ : Sl) (h : Hv)
  | exc (σ : Sl) (c : Nat) (p : Option VV) (h : Hv)
  | fail
def R.toS (σ : Sl) {α : Type} (r : R α) (f : α → Hv → RS) : RS := match r with
  | .ok a h => f a h
  | .exc c p h => .exc σ c p h
  | .fail => .fail
@[simp] theorem R.toS_ok (σ : Sl) {α : Type} (a : α) (h : Hv) (f : α → Hv → RS) : (R.ok a h).toS σ f = f a h := rfl
@[simp] theorem R.toS_exc (σ : Sl) {α : Type} (c : Nat) (p : Option VV) (h : Hv) (f : α → Hv → RS) : (R.exc c p h).toS σ f = .exc σ c p h := rfl
@[simp] theorem R.toS_fail (σ : Sl) {α : Type} (f : α → Hv → RS) : (R.fail : R α).toS σ f = .fail := rfl
def RS.seq (r : RS) (f : Sl → Hv → RS) : RS := match r with
  | .nx σ h => f σ h
  | r => r
@[simp] theorem RS.seq_nx (σ : Sl) (h : Hv) (f : Sl → Hv → RS) : (RS.nx σ h).seq f = f σ h := rfl
@[simp] theorem RS.seq_rt (v : VV) (h : Hv) (f : Sl → Hv → RS) : (RS.rt v h).seq f = .rt v h := rfl
@[simp] theorem RS.seq_bk (σ : Sl) (h : Hv) (f : Sl → Hv → RS) : (RS.bk σ h).seq f = .bk σ h := rfl
@[simp] theorem RS.seq_ct (σ : Sl) (h : Hv) (f : Sl → Hv → RS) : (RS.ct σ h).seq f = .ct σ h := rfl
@[simp] theorem RS.seq_exc (σ : Sl) (c : Nat) (p : Option VV) (h : Hv) (f : Sl → Hv → RS) : (RS.exc σ c p h).seq f = .exc σ c p h := rfl
@[simp] theorem RS.seq_fail (f : Sl → Hv → RS) : RS.fail.seq f = .fail := rfl
end VI

end
section
/-! VB: the small Python's trees and what they do. Own work. -/
namespace VI

/-! ### texts -/
def teq : Tx → Tx → Bool
  | [], [] => true
  | a :: s, b :: t => match Nat.beq a b with
    | true => teq s t
    | false => false
  | [], _ :: _ => false
  | _ :: _, [] => false
theorem teq_eq : ∀ s t : Tx, teq s t = decide (s = t)
  | [], [] => rfl
  | [], b :: t => by simp [teq]
  | a :: s, [] => by simp [teq]
  | a :: s, b :: t => by
    unfold teq
    cases q : Nat.beq a b with
    | true =>
      have e := beq_t q
      subst e
      show teq s t = _
      rw [teq_eq s t]
      simp
    | false =>
      have e := beq_f q
      simp [e]
def tmem (c : Nat) : Tx → Bool
  | [] => false
  | a :: s => match Nat.beq c a with
    | true => true
    | false => tmem c s
theorem tmem_eq (c : Nat) : ∀ s : Tx, tmem c s = decide (c ∈ s)
  | [] => by simp [tmem]
  | a :: s => by
    unfold tmem
    cases q : Nat.beq c a with
    | true =>
      have e := beq_t q
      subst e
      simp
    | false =>
      have e := beq_f q
      show tmem c s = _
      rw [tmem_eq c s]
      simp [e]

/-! ### data -/
inductive Dt where
  | non
  | bl (b : Bool)
  | int (i : Int)
  | str (s : Tx)
  | lst (xs : List Dt)
  | tup (xs : List Dt)
def optAll {α β : Type} (f : α → Option β) : List α → Option (List β)
  | [] => some []
  | x :: xs => match f x with
    | some y => match optAll f xs with
      | some ys => some (y :: ys)
      | none => none
    | none => none
def dt (h : Hv) : Nat → VV → Option Dt
  | 0, _ => none
  | k + 1, v => match v with
    | .non => some .non
    | .bl b => some (.bl b)
    | .int i => some (.int i)
    | .str s => some (.str s)
    | .tup xs => match optAll (dt h k) xs with
      | some ds => some (.tup ds)
      | none => none
    | .ref n => match h.get n with
      | some (.lst xs) => match optAll (dt h k) xs with
        | some ds => some (.lst ds)
        | none => none
      | some (.frz xs) => match optAll (dt h k) xs with
        | some ds => some (.lst ds)
        | none => none
      | _ => none
    | _ => none
def allEq (f : Dt → Dt → Bool) : List Dt → List Dt → Bool
  | [], [] => true
  | x :: xs, y :: ys => f x y && allEq f xs ys
  | [], _ :: _ => false
  | _ :: _, [] => false
def b2i (b : Bool) : Int := match b with
  | true => 1
  | false => 0
def deq : Nat → Dt → Dt → Bool
  | 0, _, _ => false
  | k + 1, a, b => match a with
    | .non => match b with
      | .non => true
      | _ => false
    | .bl p => match b with
      | .bl q => p == q
      | .int j => b2i p == j
      | _ => false
    | .int i => match b with
      | .bl q => i == b2i q
      | .int j => i == j
      | _ => false
    | .str s => match b with
      | .str t => teq s t
      | _ => false
    | .lst xs => match b with
      | .lst ys => allEq (deq k) xs ys
      | _ => false
    | .tup xs => match b with
      | .tup ys => allEq (deq k) xs ys
      | _ => false
def DEEP : Nat := 60
def veq (h : Hv) (a b : VV) : Option Bool := match dt h DEEP a with
  | some d => match dt h DEEP b with
    | some e => some (deq 61 d e)
    | none => none
  | none => none

/-! ### operations -/
inductive BOp where | add | sub | mul | fdiv | mod | pow
inductive COp where | eq | ne | lt | le | gt | ge | is_ | isn | in_ | nin
inductive Bi where | len | abs | max2 | max3 | min2 | int_ | divmod
inductive Bm where | append
inductive Ty where | int_ | bool_ | str_ | tup_ | list_ | cls (c : Nat)
def LEN : Nat := 16777216
abbrev O (α : Type) := Option (α × Hv)
def lift {α : Type} (h : Hv) (o : Option α) : R α := match o with
  | some a => .ok a h
  | none => .fail
def R.of {α : Type} (o : O α) : R α := match o with
  | some (a, h) => .ok a h
  | none => .fail
def liftO {α : Type} (h : Hv) (o : Option α) : O α := match o with
  | some a => some (a, h)
  | none => none
def mulOk (i j : Int) : Bool := Nat.blt i.natAbs 18446744073709551616 || (Nat.blt j.natAbs 18446744073709551616 || Nat.blt (i.natAbs.log2 + j.natAbs.log2) 1000000)
def vAdd (a b : VV) (h : Hv) : O VV := match a with
  | .int i => match b with
    | .int j => some ((.int (i + j)), h)
    | _ => none
  | .str s => match b with
    | .str t => match Nat.ble (s.length + t.length) LEN with
      | true => some ((.str (s ++ t)), h)
      | false => none
    | _ => none
  | _ => none
def vSub (a b : VV) (h : Hv) : O VV := match a with
  | .int i => match b with
    | .int j => some ((.int (i - j)), h)
    | _ => none
  | _ => none
def vMul (a b : VV) (h : Hv) : O VV := match a with
  | .int i => match b with
    | .int j => match mulOk i j with
      | true => some ((.int (i * j)), h)
      | false => none
    | _ => none
  | _ => none
def fdivOk (j : Int) : Bool := match j with
  | .ofNat n => Nat.blt 0 n && Nat.blt n.log2 9000
  | .negSucc _ => false
def posI (j : Int) : Bool := match j with
  | .ofNat n => Nat.blt 0 n
  | .negSucc _ => false
def vFdiv (a b : VV) (h : Hv) : O VV := match a with
  | .int i => match b with
    | .int j => match fdivOk j with
      | true => some ((.int (i / j)), h)
      | false => none
    | _ => none
  | _ => none
def vMod (a b : VV) (h : Hv) : O VV := match a with
  | .int i => match b with
    | .int j => match posI j with
      | true => some ((.int (i % j)), h)
      | false => none
    | _ => none
  | _ => none
def vPow (a b : VV) (h : Hv) : O VV := match a with
  | .int i => match b with
    | .int (.ofNat j) => match Nat.ble j 1000000 && Nat.blt i.natAbs 18446744073709551616 with
      | true => some ((.int (i ^ j)), h)
      | false => none
    | _ => none
  | _ => none
def binop (o : BOp) (a b : VV) (h : Hv) : O VV := match o with
  | .add => vAdd a b h
  | .sub => vSub a b h
  | .mul => vMul a b h
  | .fdiv => vFdiv a b h
  | .mod => vMod a b h
  | .pow => vPow a b h
def vInt2 (f : Int → Int → Bool) (a b : VV) : Option Bool := match a with
  | .int i => match b with
    | .int j => some (f i j)
    | _ => none
  | _ => none
def isNon (a : VV) : Bool := match a with
  | .non => true
  | _ => false
def cmpop (o : COp) (a b : VV) (h : Hv) : Option Bool := match o with
  | .eq => veq h a b
  | .ne => (veq h a b).map not
  | .lt => vInt2 (fun i j => decide (i < j)) a b
  | .le => vInt2 (fun i j => decide (i ≤ j)) a b
  | .gt => vInt2 (fun i j => decide (j < i)) a b
  | .ge => vInt2 (fun i j => decide (j ≤ i)) a b
  | .is_ => match b with
    | .non => some (isNon a)
    | _ => none
  | .isn => match b with
    | .non => some (!isNon a)
    | _ => none
  | .in_ => none
  | .nin => none
def truth (v : VV) (h : Hv) : Option Bool := match v with
  | .non => some false
  | .bl b => some b
  | .int i => some (i != 0)
  | .str s => match Nat.ble s.length LEN with
    | true => some ((s.length : Int) != 0)
    | false => none
  | .tup xs => some (!xs.isEmpty)
  | _ => none
def isTy (h : Hv) (v : VV) (t : Ty) : Option Bool := match v with
  | .non => match t with
    | .cls _ => none
    | _ => some false
  | .bl _ => match t with
    | .int_ => some true
    | .bool_ => some true
    | .cls _ => none
    | _ => some false
  | .int _ => match t with
    | .int_ => some true
    | .cls _ => none
    | _ => some false
  | .str _ => match t with
    | .str_ => some true
    | .cls _ => none
    | _ => some false
  | .tup _ => match t with
    | .tup_ => some true
    | .cls _ => none
    | _ => some false
  | .ref n => match h.get n with
    | some (.lst _) => match t with
      | .list_ => some true
      | .cls _ => none
      | _ => some false
    | _ => none
  | _ => none
def itemI {α : Type} (xs : List α) (i : Int) : Option α := match i with
  | .ofNat n => xs[n]?
  | .negSucc n => match Nat.ble (n + 1) xs.length with
    | true => xs[xs.length - (n + 1)]?
    | false => none
def seqOf (h : Hv) (v : VV) : Option (List VV) := match v with
  | .tup xs => some xs
  | .ref n => match h.get n with
    | some (.lst xs) => some xs
    | some (.frz xs) => some xs
    | _ => none
  | _ => none
def item (a i : VV) (h : Hv) : O VV := match i with
  | .int k => match a with
    | .str s => match Nat.ble s.length LEN with
      | true => match itemI s k with
        | some c => some ((.str [c]), h)
        | none => none
      | false => none
    | _ => match seqOf h a with
      | some xs => liftO h (itemI xs k)
      | none => none
  | _ => none
def imax (i j : Int) : Int := if j > i then j else i
def imin (i j : Int) : Int := if j < i then j else i
def a1 (f : VV → Hv → O VV) (vs : List VV) (h : Hv) : O VV := match vs with
  | [] => none
  | v :: t => match t with
    | [] => f v h
    | _ :: _ => none
def a2 (f : VV → VV → Hv → O VV) (vs : List VV) (h : Hv) : O VV := match vs with
  | [] => none
  | v :: t => a1 (f v) t h
def a3 (f : VV → VV → VV → Hv → O VV) (vs : List VV) (h : Hv) : O VV := match vs with
  | [] => none
  | v :: t => a2 (f v) t h
def a0 (f : Hv → O VV) (vs : List VV) (h : Hv) : O VV := match vs with
  | [] => f h
  | _ :: _ => none
def vLen (v : VV) (h : Hv) : O VV := match v with
  | .str s => match Nat.ble s.length LEN with
    | true => some (.int s.length, h)
    | false => none
  | v => match seqOf h v with
    | some xs => some (.int xs.length, h)
    | none => none
def vAbs (v : VV) (h : Hv) : O VV := match v with
  | .int i => some (.int i.natAbs, h)
  | _ => none
def vMax2 (a b : VV) (h : Hv) : O VV := match a with
  | .int i => match b with
    | .int j => some (.int (imax i j), h)
    | _ => none
  | _ => none
def vMin2 (a b : VV) (h : Hv) : O VV := match a with
  | .int i => match b with
    | .int j => some (.int (imin i j), h)
    | _ => none
  | _ => none
def vMax3 (a b c : VV) (h : Hv) : O VV := match a with
  | .int i => match b with
    | .int j => match c with
      | .int k => some (.int (imax (imax i j) k), h)
      | _ => none
    | _ => none
  | _ => none
def vInt (v : VV) (h : Hv) : O VV := match v with
  | .int i => some (.int i, h)
  | .bl b => some (.int (b2i b), h)
  | _ => none
def vDivmod (a b : VV) (h : Hv) : O VV := match a with
  | .int i => match b with
    | .int j => match fdivOk j with
      | true => some (.tup [.int (i / j), .int (i % j)], h)
      | false => none
    | _ => none
  | _ => none
def callBi (b : Bi) (vs : List VV) (h : Hv) : O VV := match b with
  | .len => a1 vLen vs h
  | .abs => a1 vAbs vs h
  | .max2 => a2 vMax2 vs h
  | .max3 => a3 vMax3 vs h
  | .min2 => a2 vMin2 vs h
  | .int_ => a1 vInt vs h
  | .divmod => a2 vDivmod vs h
def vAppend (o v : VV) (h : Hv) : O VV := match o with
  | .ref n => match h.get n with
    | some (.lst xs) => match Nat.blt xs.length LEN with
      | true => some (.non, h.put n (.lst (xs ++ [v])))
      | false => none
    | _ => none
  | _ => none
def callBm (b : Bm) (o : VV) (vs : List VV) (h : Hv) : O VV := match b with
  | .append => a1 (vAppend o) vs h

/-! ### the trees -/
inductive ItK where | val | rng
inductive Ex where
  | con (v : VV)
  | var (i : Nat)
  | glo (g : Nat)
  | bin (o : BOp) (a b : Ex)
  | neg (a : Ex)
  | nt (a : Ex)
  | and_ (es : List Ex)
  | or_ (es : List Ex)
  | cmp (o : COp) (a b : Ex)
  | chn (o p : COp) (a b c : Ex)
  | ife (c a b : Ex)
  | tup (es : List Ex)
  | lst (es : List Ex)
  | call (f : Nat) (es : List Ex)
  | callk (f : Nat) (es : List Ex) (ks : List Nat) (vs : List Ex)
  | bi (b : Bi) (es : List Ex)
  | bm (b : Bm) (o : Ex) (es : List Ex)
  | isi (a : Ex) (t : Ty)
  | ix (a i : Ex)
  | lc (e : Ex) (tg : List Nat) (k : ItK) (it : List Ex) (c : List Ex)
inductive Tg where
  | nm (i : Nat)
  | tup (is : List Nat)
  | star (is : List Nat) (i : Nat)
inductive Sx where
  | asg (t : Tg) (e : Ex)
  | par (is : List Nat) (es : List Ex)
  | aug (i : Nat) (o : BOp) (e : Ex)
  | exp (e : Ex)
  | ret (e : Ex)
  | retn
  | ife (c : Ex) (a b : List Sx)
  | whl (c : Ex) (b : List Sx)
  | for_ (t : Tg) (k : ItK) (it : List Ex) (b : List Sx)
  | rais (c : Nat) (p : List Ex)
  | pas
  | brk
  | cnt
  | bad

/-! ### what they do -/
abbrev Callee := Nat → List VV → Hv → R VV
structure Den where
  e : Sl → Hv → R VV
  t : Sl → Hv → R Bool
def Den.of (f : Sl → Hv → R VV) : Den := ⟨f, fun σ h => (f σ h).bind fun v h1 => lift h1 (truth v h1)⟩
def bl1 (r : R Bool) : R VV := r.bind fun b h => .ok (.bl b) h
def getv (σ : Sl) (i : Nat) (h : Hv) : R VV := match σ[i]? with
  | some (some v) => .ok v h
  | _ => .fail
def Den.list : List Den → Sl → Hv → R (List VV)
  | [], _, h => .ok [] h
  | d :: ds, σ, h => (d.e σ h).bind fun v h1 => (Den.list ds σ h1).bind fun vs h2 => .ok (v :: vs) h2
def dBin (o : BOp) (a b : Den) : Den := .of fun σ h => (a.e σ h).bind fun x h1 => (b.e σ h1).bind fun y h2 => .of (binop o x y h2)
def dNeg (a : Den) : Den := .of fun σ h => (a.e σ h).bind fun x h1 => match x with
  | .int i => .ok (.int (-i)) h1
  | _ => .fail
def dNot (a : Den) : Den := ⟨fun σ h => (a.e σ h).bind fun v h1 => (lift h1 (truth v h1)).bind fun b h2 => .ok (.bl (!b)) h2, fun σ h => (a.t σ h).bind fun b h1 => .ok (!b) h1⟩
def andT : List Den → Sl → Hv → R Bool
  | [], _, h => .ok true h
  | d :: ds, σ, h => (d.t σ h).bind fun b h1 => match b with
    | true => andT ds σ h1
    | false => .ok false h1
def orT : List Den → Sl → Hv → R Bool
  | [], _, h => .ok false h
  | d :: ds, σ, h => (d.t σ h).bind fun b h1 => match b with
    | true => .ok true h1
    | false => orT ds σ h1
def andV : List Den → Sl → Hv → R VV
  | [], _, h => .fail
  | [d], σ, h => d.e σ h
  | d :: ds, σ, h => (d.e σ h).bind fun v h1 => (lift h1 (truth v h1)).bind fun b h2 => match b with
    | true => andV ds σ h2
    | false => .ok v h2
def orV : List Den → Sl → Hv → R VV
  | [], _, h => .fail
  | [d], σ, h => d.e σ h
  | d :: ds, σ, h => (d.e σ h).bind fun v h1 => (lift h1 (truth v h1)).bind fun b h2 => match b with
    | true => .ok v h2
    | false => orV ds σ h2
def dAnd (ds : List Den) : Den := ⟨andV ds, andT ds⟩
def dOr (ds : List Den) : Den := ⟨orV ds, orT ds⟩
def cmpT (o : COp) (a b : Den) (σ : Sl) (h : Hv) : R Bool := (a.e σ h).bind fun x h1 => (b.e σ h1).bind fun y h2 => lift h2 (cmpop o x y h2)
def dCmp (o : COp) (a b : Den) : Den := ⟨fun σ h => bl1 (cmpT o a b σ h), cmpT o a b⟩
def chnT (o p : COp) (a b c : Den) (σ : Sl) (h : Hv) : R Bool := (a.e σ h).bind fun x h1 => (b.e σ h1).bind fun y h2 => (lift h2 (cmpop o x y h2)).bind fun q h3 => match q with
  | true => (c.e σ h3).bind fun z h4 => lift h4 (cmpop p y z h4)
  | false => .ok false h3
def dChn (o p : COp) (a b c : Den) : Den := ⟨fun σ h => bl1 (chnT o p a b c σ h), chnT o p a b c⟩
def dIfe (c a b : Den) : Den := ⟨fun σ h => (c.t σ h).bind fun q h1 => match q with
  | true => a.e σ h1
  | false => b.e σ h1, fun _ _ => .fail⟩
def dTup (ds : List Den) : Den := .of fun σ h => (Den.list ds σ h).bind fun vs h1 => .ok (.tup vs) h1
def dLst (ds : List Den) : Den := .of fun σ h => (Den.list ds σ h).bind fun vs h1 => .ok (.ref h1.n) (h1.new (.lst vs))
def dCall (c : Callee) (f : Nat) (ds : List Den) : Den := .of fun σ h => (Den.list ds σ h).bind fun vs h1 => c f vs h1
/-- the positional values, then each parameter behind them: a keyword's value (its place ks), or the default -/
def kwPut (vs : List VV) : List Nat → List VV → List VV
  | k :: ks, w :: ws => kwPut (vs.set k w) ks ws
  | _, _ => vs
def dCallk (c : Callee) (f : Nat) (ds : List Den) (es : List Den) : Den := .of fun σ h => (Den.list ds σ h).bind fun vs h1 => (Den.list es σ h1).bind fun ws h2 => c f (vs ++ ws) h2
def dBi (b : Bi) (ds : List Den) : Den := .of fun σ h => (Den.list ds σ h).bind fun vs h1 => .of (callBi b vs h1)
def bmTy (b : Bm) (x : VV) (h : Hv) : Bool := match b with
  | .append => match x with
    | .ref n => match h.get n with
      | some (.lst _) => true
      | _ => false
    | _ => false
def dBm (b : Bm) (o : Den) (ds : List Den) : Den := .of fun σ h => (o.e σ h).bind fun x h1 => match bmTy b x h1 with
  | true => (Den.list ds σ h1).bind fun vs h2 => .of (callBm b x vs h2)
  | false => .fail
def dIsi (a : Den) (t : Ty) : Den := .of fun σ h => (a.e σ h).bind fun x h1 => (lift h1 (isTy h1 x t)).bind fun b h2 => .ok (.bl b) h2
def dIx (a i : Den) : Den := .of fun σ h => (a.e σ h).bind fun x h1 => (i.e σ h1).bind fun y h2 => .of (item x y h2)

/-! ### what is walked -/
inductive Wk where
  | fix (xs : List VV)
  | live (n : Nat) (len : Nat)
def rngL (lo : Int) : Nat → List VV
  | 0 => []
  | k + 1 => .int lo :: rngL (lo + 1) k
def BIG : Int := 4611686018427387904
def smallI (i : Int) : Bool := Nat.blt i.natAbs 4611686018427387904
def walk (k : ItK) (vs : List VV) (h : Hv) : O Wk := match k with
  | .rng => match vs with
    | [.int j] => match smallI j with
      | true => some ((.fix (rngL 0 j.toNat)), h)
      | false => none
    | [.int i, .int j] => match smallI i && smallI j with
      | true => some ((.fix (rngL i (j - i).toNat)), h)
      | false => none
    | _ => none
  | .val => match vs with
    | [.tup xs] => some ((.fix xs), h)
    | [.str s] => some ((.fix (s.map fun c => .str [c])), h)
    | [.ref n] => match h.get n with
      | some (.lst xs) => some ((.live n xs.length), h)
      | some (.frz xs) => some ((.live n xs.length), h)
      | _ => none
    | _ => none
def setSl (σ : Sl) (i : Nat) (v : VV) : Sl := σ.set i (some v)
def tgNames : List Nat → List VV → Sl → Option Sl
  | [], [], σ => some σ
  | i :: is, v :: vs, σ => tgNames is vs (setSl σ i v)
  | _, _, _ => none
def putTg (t : Tg) (v : VV) (σ : Sl) (h : Hv) : R Sl := match t with
  | .nm i => .ok (setSl σ i v) h
  | .tup is => match seqOf h v with
    | some xs => lift h (tgNames is xs σ)
    | none => .fail
  | .star is i => .fail
def tgOf : List Nat → Tg
  | [i] => .nm i
  | is => .tup is

/-- a comprehension over items that stand -/
def lcFix (e : Den) (c : List Den) (tg : Tg) (σ : Sl) : List VV → List VV → Hv → R (List VV)
  | [], acc, h => .ok acc h
  | x :: xs, acc, h => (putTg tg x σ h).bind fun σ1 h1 => (andT c σ1 h1).bind fun b h2 => match b with
    | true => (e.e σ1 h2).bind fun v h3 => match Nat.blt acc.length LEN with
      | true => lcFix e c tg σ xs (acc ++ [v]) h3
      | false => .fail
    | false => lcFix e c tg σ xs acc h2
def liveAt (h : Hv) (n i : Nat) : Option VV := match h.get n with
  | some (.lst xs) => xs[i]?
  | some (.frz xs) => xs[i]?
  | _ => none
def liveLen (h : Hv) (n : Nat) : Option Nat := match h.get n with
  | some (.lst xs) => some xs.length
  | some (.frz xs) => some xs.length
  | _ => none
def lcLive (e : Den) (c : List Den) (tg : Tg) (σ : Sl) (n len : Nat) : Nat → List VV → Hv → R (List VV)
  | 0, acc, h => match liveLen h n with
    | some m => match Nat.ble m len with
      | true => .ok acc h
      | false => .fail
    | none => .fail
  | k + 1, acc, h => match liveAt h n (len - (k + 1)) with
    | some x => (putTg tg x σ h).bind fun σ1 h1 => (andT c σ1 h1).bind fun b h2 => match b with
      | true => (e.e σ1 h2).bind fun v h3 => match Nat.blt acc.length LEN with
        | true => lcLive e c tg σ n len k (acc ++ [v]) h3
        | false => .fail
      | false => lcLive e c tg σ n len k acc h2
    | none => .fail
def wipes (σ : Sl) : List Nat → Sl
  | [] => σ
  | v :: vs => (wipes σ vs).set v none
def R.noX {α : Type} (r : R α) : R α := match r with
  | .ok a h => .ok a h
  | _ => .fail
def dLc (e : Den) (tg : List Nat) (k : ItK) (it : List Den) (c : List Den) : Den := .of fun σ h => (Den.list it σ h).bind fun vs h1 => (R.of (walk k vs h1)).bind fun w h2 =>
  (match w with
    | .fix xs => (lcFix e c (tgOf tg) (wipes σ tg) xs [] h2).noX
    | .live n len => (lcLive e c (tgOf tg) (wipes σ tg) n len len [] h2).noX).bind fun ys h3 => .ok (.ref h3.n) (h3.new (.lst ys))

section
variable (G : Nat → Option VV) (c : Callee)
mutual
def den : Ex → Den
  | .con v => .of fun _ h => .ok v h
  | .var i => .of fun σ h => getv σ i h
  | .glo g => .of fun _ h => lift h (G g)
  | .bin o a b => dBin o (den a) (den b)
  | .neg a => dNeg (den a)
  | .nt a => dNot (den a)
  | .and_ es => dAnd (dens es)
  | .or_ es => dOr (dens es)
  | .cmp o a b => dCmp o (den a) (den b)
  | .chn o p a b e => dChn o p (den a) (den b) (den e)
  | .ife e a b => dIfe (den e) (den a) (den b)
  | .tup es => dTup (dens es)
  | .lst es => dLst (dens es)
  | .call f es => dCall c f (dens es)
  | .callk f es ks vs => dCallk c f (dens es) (dens vs)
  | .bi b es => dBi b (dens es)
  | .bm b o es => dBm b (den o) (dens es)
  | .isi a t => dIsi (den a) t
  | .ix a i => dIx (den a) (den i)
  | .lc e tg k it cs => dLc (den e) tg k (dens it) (dens cs)
def dens : List Ex → List Den
  | [] => []
  | e :: es => den e :: dens es
end
end

abbrev DenS := Sl → Hv → RS
def LOOPS : Nat := 1000000
/-- behind a loop's body -/
def loopR (r : RS) (F : DenS) : RS := match r with
  | .nx σ h => F σ h
  | .ct σ h => F σ h
  | .bk σ h => .nx σ h
  | r => r
@[simp] theorem loopR_nx (σ : Sl) (h : Hv) (F : DenS) : loopR (.nx σ h) F = F σ h := rfl
@[simp] theorem loopR_ct (σ : Sl) (h : Hv) (F : DenS) : loopR (.ct σ h) F = F σ h := rfl
@[simp] theorem loopR_bk (σ : Sl) (h : Hv) (F : DenS) : loopR (.bk σ h) F = .nx σ h := rfl
@[simp] theorem loopR_rt (v : VV) (h : Hv) (F : DenS) : loopR (.rt v h) F = .rt v h := rfl
@[simp] theorem loopR_exc (σ : Sl) (c : Nat) (p : Option VV) (h : Hv) (F : DenS) : loopR (.exc σ c p h) F = .exc σ c p h := rfl
@[simp] theorem loopR_fail (F : DenS) : loopR .fail F = .fail := rfl
def whlL (c : Den) (b : DenS) : Nat → DenS
  | 0, _, _ => .fail
  | k + 1, σ, h => (c.t σ h).toS σ fun q h1 => match q with
    | false => .nx σ h1
    | true => loopR (b σ h1) (whlL c b k)
def forFix (tg : Tg) (b : DenS) : List VV → DenS
  | [], σ, h => .nx σ h
  | x :: xs, σ, h => (putTg tg x σ h).toS σ fun σ1 h1 => loopR (b σ1 h1) (forFix tg b xs)
def forLive (tg : Tg) (b : DenS) (n len : Nat) : Nat → DenS
  | 0, σ, h => match liveLen h n with
    | some m => match Nat.ble m len with
      | true => .nx σ h
      | false => .fail
    | none => .fail
  | k + 1, σ, h => match liveAt h n (len - (k + 1)) with
    | some x => (putTg tg x σ h).toS σ fun σ1 h1 => loopR (b σ1 h1) (forLive tg b n len k)
    | none => .fail
def sAsg (t : Tg) (e : Den) : DenS := fun σ h => (e.e σ h).toS σ fun v h1 => (putTg t v σ h1).toS σ fun σ2 h2 => .nx σ2 h2
def sPar (is : List Nat) (es : List Den) : DenS := fun σ h => (Den.list es σ h).toS σ fun vs h1 => (lift h1 (tgNames is vs σ)).toS σ fun σ2 h2 => .nx σ2 h2
def augop (o : BOp) (a b : VV) (h : Hv) : O VV := match a with
  | .int i => match b with
    | .int j => match o with
      | .add => some (.int (i + j), h)
      | .sub => some (.int (i - j), h)
      | .mul => match mulOk i j with
        | true => some (.int (i * j), h)
        | false => none
      | _ => none
    | _ => none
  | _ => none
def sAug (i : Nat) (o : BOp) (e : Den) : DenS := fun σ h => (getv σ i h).toS σ fun x h1 => (e.e σ h1).toS σ fun y h2 => (R.of (augop o x y h2)).toS σ fun v h3 => .nx (setSl σ i v) h3
def sExp (e : Den) : DenS := fun σ h => (e.e σ h).toS σ fun _ h1 => .nx σ h1
def sRet (e : Den) : DenS := fun σ h => (e.e σ h).toS σ fun v h1 => .rt v h1
def sIfe (c : Den) (a b : DenS) : DenS := fun σ h => (c.t σ h).toS σ fun q h1 => match q with
  | true => a σ h1
  | false => b σ h1
def sFor (t : Tg) (k : ItK) (it : List Den) (b : DenS) : DenS := fun σ h => (Den.list it σ h).toS σ fun vs h1 => (R.of (walk k vs h1)).toS σ fun w h2 => match w with
  | .fix xs => forFix t b xs σ h2
  | .live n len => forLive t b n len len σ h2
def sRais (c : Nat) (p : List Den) : DenS := fun σ h => match p with
  | [] => .exc σ c none h
  | d :: _ => (d.e σ h).toS σ fun v h1 => .exc σ c (some v) h1
section
variable (G : Nat → Option VV) (c : Callee)
mutual
def denS : Sx → DenS
  | .asg t e => sAsg t (den G c e)
  | .par is es => sPar is (dens G c es)
  | .aug i o e => sAug i o (den G c e)
  | .exp e => sExp (den G c e)
  | .ret e => sRet (den G c e)
  | .retn => fun _ h => .rt .non h
  | .ife e a b => sIfe (den G c e) (denSs a) (denSs b)
  | .whl e b => whlL (den G c e) (denSs b) LOOPS
  | .for_ t k it b => sFor t k (dens G c it) (denSs b)
  | .rais x p => sRais x (dens G c p)
  | .pas => fun σ h => .nx σ h
  | .brk => fun σ h => .bk σ h
  | .cnt => fun σ h => .ct σ h
  | .bad => fun _ _ => .fail
def denSs : List Sx → DenS
  | [] => fun σ h => .nx σ h
  | s :: ss => fun σ h => (denS s σ h).seq (denSs ss)
end
end

/-! ### functions -/
inductive FnI where
  | ir (np ns : Nat) (body : List Sx)
  | nv (np : Nat) (g : List VV → Hv → R VV)
def startV (ns : Nat) (vs : List VV) : Sl := vs.map some ++ List.replicate (ns - vs.length) none
def finish (r : RS) : R VV := match r with
  | .nx _ h => .ok .non h
  | .rt v h => .ok v h
  | .exc _ c p h => .exc c p h
  | _ => .fail
def run (G : Nat → Option VV) (F : Nat → Option FnI) : Nat → Callee
  | 0, _, _, _ => .fail
  | d + 1, f, vs, h => match F f with
    | some (.ir np ns body) => match Nat.beq vs.length np with
      | true => finish (denSs G (run G F d) body (startV ns vs) h)
      | false => .fail
    | some (.nv np g) => match Nat.beq vs.length np with
      | true => g vs h
      | false => .fail
    | none => .fail
end VI

end
section
/-! VC: how the small Python's values and heap stand for the model's. Own work. -/
namespace VI
open PySem PySem.Spec PyProof.Rows L2

/-- what the program is, on the model's side -/
structure Gm where
  P : Program
  w : World
  K : PySem.W.Frag
  mg : Str → Option Value
  base : Heap
  fa : Nat → Addr
  ca : Nat → Addr
  xf : Nat → Str
  ca_inj : ∀ m n, ca m = ca n → m = n

def toS (s : Tx) : Str := ⟨s.toArray⟩
theorem toS_list (s : Tx) : (toS s).cps.toList = s := by simp [toS]
theorem toS_inj {s t : Tx} (h : toS s = toS t) : s = t := by
  rw [← toS_list s, ← toS_list t, h]
theorem toS_len (s : Tx) : (toS s).length = s.length := by simp [toS, Str.length]
def okT (s : Tx) : Prop := ∀ c ∈ s, c < 0x110000
theorem okT.app {s t : Tx} (h1 : okT s) (h2 : okT t) : okT (s ++ t) := fun c hc => (List.mem_append.mp hc).elim (h1 c) (h2 c)
theorem okT.sub {s t : Tx} (h1 : okT s) (h : ∀ c ∈ t, c ∈ s) : okT t := fun c hc => h1 c (h c hc)

section
variable (Γ : Gm)
mutual
inductive RV (ι : Nat → Addr) (sz : Nat) (H : Hp) : VV → V → Prop where
  | non : RV ι sz H .non .non
  | bl (b : Bool) : RV ι sz H (.bl b) (.bl b)
  | int (i : Int) : RV ι sz H (.int i) (.int i)
  | str (s : Tx) : okT s → RV ι sz H (.str s) (.str (toS s))
  | tup {xs : List VV} {a : Addr} {ys : List V} : SqT Γ.K H a ys → RVs ι sz H xs ys → RV ι sz H (.tup xs) (.ref a)
  | ref (n : Nat) : n < sz → RV ι sz H (.ref n) (.ref (ι n))
  | fn (n : Nat) : RV ι sz H (.fn n) (.ref (Γ.fa n))
  | cls (n : Nat) : RV ι sz H (.cls n) (.ref (Γ.ca n))
inductive RVs (ι : Nat → Addr) (sz : Nat) (H : Hp) : List VV → List V → Prop where
  | nil : RVs ι sz H [] []
  | cons {v : VV} {vs : List VV} {x : V} {xs : List V} : RV ι sz H v x → RVs ι sz H vs xs → RVs ι sz H (v :: vs) (x :: xs)
end
/-- what an object stands for -/
inductive RO (ι : Nat → Addr) (sz : Nat) (H : Hp) : VO → HO → Prop where
  | lst {xs : List VV} {ys : List V} : RVs Γ ι sz H xs ys → RO ι sz H (.lst xs) (.lst ys)
  | frz {xs : List VV} {ys : List V} (o : Obj) : RVs Γ ι sz H xs ys → RO ι sz H (.frz xs) (.frz o (.lst ys))
structure RH (ι : Nat → Addr) (h : Hv) (H : Hp) : Prop where
  ob : ∀ n o, h.get n = some o → ∃ u, H (ι n) = some u ∧ RO Γ ι h.n H o u
  inj : ∀ m n, m < h.n → n < h.n → ι m = ι n → m = n
  dom : ∀ n, n < h.n → ∃ o, h.get n = some o
/-- from a state to a later one -/
structure Stp (ι : Nat → Addr) (h : Hv) (H : Hp) (ι' : Nat → Addr) (h' : Hv) (H' : Hp) : Prop where
  io : ∀ n, n < h.n → ι' n = ι n
  sz : h.n ≤ h'.n
  tp : ∀ a ys, SqT Γ.K H a ys → SqT Γ.K H' a ys
  fr : ∀ a u, H a = some u → (∀ n, n < h.n → ι n ≠ a) → H' a = some u
  nf : ∀ n, h.n ≤ n → n < h'.n → H (ι' n) = none
  th : ∀ a u, H a = some u → ∃ u', H' a = some u'
end
section
variable {Γ : Gm} {ι ι' ι'' : Nat → Addr} {h h' h'' : Hv} {H H' H'' : Hp}
theorem Stp.refl : Stp Γ ι h H ι h H := ⟨fun _ _ => rfl, Nat.le_refl _, fun _ _ q => q, fun _ _ e _ => e, fun n h1 h2 => absurd h2 (by omega), fun _ u e => ⟨u, e⟩⟩
theorem Stp.trans (a : Stp Γ ι h H ι' h' H') (b : Stp Γ ι' h' H' ι'' h'' H'') : Stp Γ ι h H ι'' h'' H'' := by
  refine ⟨fun n hn => (b.io n (Nat.lt_of_lt_of_le hn a.sz)).trans (a.io n hn), Nat.le_trans a.sz b.sz, fun c ys q => b.tp c ys (a.tp c ys q), fun c u e hn => ?_, fun n h1 h2 => ?_, fun c u e => ?_⟩
  · refine b.fr c u (a.fr c u e hn) fun n hn' z => ?_
    by_cases hl : n < h.n
    · rw [a.io n hl] at z
      exact hn n hl z
    · have := a.nf n (by omega) hn'
      rw [z, e] at this
      cases this
  · by_cases hl : n < h'.n
    · rw [b.io n hl]
      exact a.nf n h1 hl
    · have z := b.nf n (by omega) h2
      cases e : H (ι'' n) with
      | none => rfl
      | some u =>
        obtain ⟨u', e'⟩ := a.th _ u e
        rw [e'] at z
        cases z
  · obtain ⟨u', e'⟩ := a.th c u e
    exact b.th c u' e'
mutual
theorem RV.mono (s : Stp Γ ι h H ι' h' H') : ∀ {v : VV} {x : V}, RV Γ ι h.n H v x → RV Γ ι' h'.n H' v x
  | _, _, .non => .non
  | _, _, .bl b => .bl b
  | _, _, .int i => .int i
  | _, _, .str t e => .str t e
  | _, _, .tup q r => .tup (s.tp _ _ q) (RVs.mono s r)
  | _, _, .ref n hn => by
    rw [← s.io n hn]
    exact .ref n (Nat.lt_of_lt_of_le hn s.sz)
  | _, _, .fn n => .fn n
  | _, _, .cls n => .cls n
theorem RVs.mono (s : Stp Γ ι h H ι' h' H') : ∀ {vs : List VV} {xs : List V}, RVs Γ ι h.n H vs xs → RVs Γ ι' h'.n H' vs xs
  | _, _, .nil => .nil
  | _, _, .cons r t => .cons (RV.mono s r) (RVs.mono s t)
end
theorem RO.mono (s : Stp Γ ι h H ι' h' H') {o : VO} {u : HO} (r : RO Γ ι h.n H o u) : RO Γ ι' h'.n H' o u := by
  cases r with
  | lst r => exact .lst (r.mono s)
  | frz o r => exact .frz o (r.mono s)
section
variable {sz : Nat}
theorem RVs.length : ∀ {vs : List VV} {xs : List V}, RVs Γ ι sz H vs xs → vs.length = xs.length
  | _, _, .nil => rfl
  | _, _, .cons _ t => congrArg Nat.succ (RVs.length t)
theorem RVs.append : ∀ {vs ws : List VV} {xs ys : List V}, RVs Γ ι sz H vs xs → RVs Γ ι sz H ws ys → RVs Γ ι sz H (vs ++ ws) (xs ++ ys)
  | _, _, _, _, .nil, t => t
  | _, _, _, _, .cons r s, t => .cons r (RVs.append s t)
theorem RVs.get : ∀ {vs : List VV} {xs : List V} {i : Nat} {v : VV}, RVs Γ ι sz H vs xs → vs[i]? = some v → ∃ x, xs[i]? = some x ∧ RV Γ ι sz H v x
  | _, _, _, _, .nil, e => by simp at e
  | _, _, 0, _, .cons r _, e => by simp at e; subst e; exact ⟨_, rfl, r⟩
  | _, _, i + 1, v, .cons _ t, e => by
    obtain ⟨x, h1, h2⟩ := RVs.get (i := i) (v := v) t (by simpa using e)
    exact ⟨x, by simpa using h1, h2⟩
theorem RVs.one {v : VV} {x : V} (r : RV Γ ι sz H v x) : RVs Γ ι sz H [v] [x] := .cons r .nil
/-- what a whole number, a text .. stands for -/
theorem RV.intV {i : Int} {x : V} (r : RV Γ ι sz H (.int i) x) : x = .int i := by cases r; rfl
theorem RV.blV {b : Bool} {x : V} (r : RV Γ ι sz H (.bl b) x) : x = .bl b := by cases r; rfl
theorem RV.nonV {x : V} (r : RV Γ ι sz H .non x) : x = .non := by cases r; rfl
theorem RV.strV {s : Tx} {x : V} (r : RV Γ ι sz H (.str s) x) : x = .str (toS s) ∧ okT s := by cases r; exact ⟨rfl, by assumption⟩
theorem RV.tupV {xs : List VV} {x : V} (r : RV Γ ι sz H (.tup xs) x) : ∃ a ys, x = .ref a ∧ SqT Γ.K H a ys ∧ RVs Γ ι sz H xs ys := by
  cases r with
  | tup q t => exact ⟨_, _, rfl, q, t⟩
theorem RV.refV {n : Nat} {x : V} (r : RV Γ ι sz H (.ref n) x) : x = .ref (ι n) ∧ n < sz := by cases r; exact ⟨rfl, by assumption⟩
end

/-! ### the heap grows, is written -/
theorem SqT.upd_new {K : PySem.W.Frag} {a p : Addr} {ys : List V} {u : HO} (hp : H p = none) (q : SqT K H a ys) : SqT K (upd H p u) a ys := by
  rcases q with (q | ⟨o, q⟩) | q
  · exact .inl (.inl (by rw [upd_ne (ne_of_none q hp)]; exact q))
  · exact .inl (.inr ⟨o, by rw [upd_ne (ne_of_none q hp)]; exact q⟩)
  · exact .inr q
/-- an object of ours that is written is no tuple -/
def NoT (u : HO) : Prop := (∀ xs, u ≠ .tup xs) ∧ ∀ o xs, u ≠ .frz o (.tup xs)
theorem SqT.upd_old {K : PySem.W.Frag} {a p : Addr} {ys : List V} {u w : HO} (hp : H p = some w) (nt : NoT w) (q : SqT K H a ys) : SqT K (upd H p u) a ys := by
  rcases q with (q | ⟨o, q⟩) | q
  · exact .inl (.inl (by rw [upd_ne (ne_of q hp (fun e => nt.1 _ e.symm))]; exact q))
  · exact .inl (.inr ⟨o, by rw [upd_ne (ne_of q hp (fun e => nt.2 _ _ e.symm))]; exact q⟩)
  · exact .inr q
theorem RO.noT {ι : Nat → Addr} {sz : Nat} {o : VO} {u : HO} (r : RO Γ ι sz H o u) : NoT u := by
  cases r with
  | lst _ => exact ⟨fun _ e => (by cases e), fun _ _ e => (by cases e)⟩
  | frz _ _ => exact ⟨fun _ e => (by cases e), fun _ _ e => (by cases e)⟩
/-- a thing that is no object of ours is laid: tuples and the like -/
theorem Stp.side {p : Addr} {u : HO} (hp : H p = none) : Stp Γ ι h H ι h (upd H p u) := ⟨fun _ _ => rfl, Nat.le_refl _, fun _ _ q => SqT.upd_new hp q, fun a w e _ => (upd_ne (ne_of_none e hp)).trans e, fun n h1 h2 => absurd h2 (by omega), fun a w e => ⟨w, (upd_ne (ne_of_none e hp)).trans e⟩⟩
theorem RH.side {p : Addr} {u : HO} (r : RH Γ ι h H) (hp : H p = none) : RH Γ ι h (upd H p u) := by
  refine ⟨fun n o e => ?_, r.inj, r.dom⟩
  obtain ⟨w, e1, e2⟩ := r.ob n o e
  exact ⟨w, by rw [upd_ne (ne_of_none e1 hp)]; exact e1, e2.mono (Stp.side hp)⟩
/-- the places with one more -/
def ext (ι : Nat → Addr) (n : Nat) (p : Addr) : Nat → Addr := fun m => if m = n then p else ι m
theorem ext_same {n : Nat} {p : Addr} : ext ι n p n = p := if_pos rfl
theorem ext_ne {n m : Nat} {p : Addr} (e : m ≠ n) : ext ι n p m = ι m := if_neg e
theorem Stp.new {p : Addr} {u : HO} {o : VO} (hp : H p = none) : Stp Γ ι h H (ext ι h.n p) (h.new o) (upd H p u) :=
  ⟨fun n hn => ext_ne (Nat.ne_of_lt hn), Nat.le_succ _, fun _ _ q => SqT.upd_new hp q, fun a w e _ => (upd_ne (ne_of_none e hp)).trans e, fun n h1 h2 => by
    have h2 : n < h.n + 1 := h2
    have e : n = h.n := by omega
    subst e
    rw [ext_same]
    exact hp, fun a w e => ⟨w, (upd_ne (ne_of_none e hp)).trans e⟩⟩
theorem RH.new {p : Addr} {u : HO} {o : VO} (r : RH Γ ι h H) (hp : H p = none) (ro : RO Γ ι h.n H o u) : RH Γ (ext ι h.n p) (h.new o) (upd H p u) := by
  have st : Stp Γ ι h H (ext ι h.n p) (h.new o) (upd H p u) := Stp.new hp
  have nw : ∀ n, n < h.n → ι n ≠ p := fun n hn e => by
    obtain ⟨q, eq⟩ := r.dom n hn
    obtain ⟨w, e1, _⟩ := r.ob n q eq
    rw [e, hp] at e1
    cases e1
  refine ⟨fun n q e => ?_, fun a b ha hb e => ?_, fun n hn => ?_⟩
  · rw [Hv.get_new] at e
    by_cases hn : n = h.n
    · subst hn
      rw [if_pos rfl] at e
      cases e
      rw [ext_same, upd_same]
      exact ⟨u, rfl, ro.mono st⟩
    · rw [if_neg hn] at e
      obtain ⟨w, e1, e2⟩ := r.ob n q e
      refine ⟨w, ?_, e2.mono st⟩
      rw [ext_ne hn, upd_ne (ne_of_none e1 hp)]
      exact e1
  · have ha' : a < h.n + 1 := ha
    have hb' : b < h.n + 1 := hb
    by_cases ea : a = h.n
    · by_cases eb : b = h.n
      · omega
      · subst ea
        rw [ext_same, ext_ne eb] at e
        exact absurd e.symm (nw b (by omega))
    · by_cases eb : b = h.n
      · subst eb
        rw [ext_same, ext_ne ea] at e
        exact absurd e (nw a (by omega))
      · rw [ext_ne ea, ext_ne eb] at e
        exact r.inj a b (by omega) (by omega) e
  · have hn' : n < h.n + 1 := hn
    rw [Hv.get_new]
    by_cases e : n = h.n
    · exact ⟨o, if_pos e⟩
    · rw [if_neg e]
      exact r.dom n (by omega)
mutual
theorem RV.grow {p : Addr} (hf : ∀ n, n < h.n → ι n ≠ p) : ∀ {v : VV} {x : V}, RV Γ ι h.n H v x → RV Γ (ext ι h.n p) (h.n + 1) H v x
  | _, _, .non => .non
  | _, _, .bl b => .bl b
  | _, _, .int i => .int i
  | _, _, .str t e => .str t e
  | _, _, .tup q r => .tup q (RVs.grow hf r)
  | _, _, .ref n hn => by
    rw [← ext_ne (ι := ι) (p := p) (Nat.ne_of_lt hn)]
    exact .ref n (Nat.lt_succ_of_lt hn)
  | _, _, .fn n => .fn n
  | _, _, .cls n => .cls n
theorem RVs.grow {p : Addr} (hf : ∀ n, n < h.n → ι n ≠ p) : ∀ {vs : List VV} {xs : List V}, RVs Γ ι h.n H vs xs → RVs Γ (ext ι h.n p) (h.n + 1) H vs xs
  | _, _, .nil => .nil
  | _, _, .cons r t => .cons (RV.grow hf r) (RVs.grow hf t)
end
/-- an object that was laid ahead becomes one of ours -/
theorem Stp.adopt {p : Addr} {o : VO} (hf : ∀ n, n < h.n → ι n ≠ p) {ι0 : Nat → Addr} {h0 : Hv} {H0 : Hp} (hp : H0 p = none) (s : Stp Γ ι0 h0 H0 ι h H) : Stp Γ ι0 h0 H0 (ext ι h.n p) (h.new o) H :=
  ⟨fun n hn => (ext_ne (Nat.ne_of_lt (Nat.lt_of_lt_of_le hn s.sz))).trans (s.io n hn), Nat.le_succ_of_le s.sz, s.tp, s.fr, fun n h1 h2 => by
    have h2 : n < h.n + 1 := h2
    by_cases e : n = h.n
    · subst e
      rw [ext_same]
      exact hp
    · rw [ext_ne e]
      exact s.nf n h1 (by omega), s.th⟩
theorem RH.adopt {p : Addr} {u : HO} {o : VO} (r : RH Γ ι h H) (hf : ∀ n, n < h.n → ι n ≠ p) (hp : H p = some u) (ro : RO Γ ι h.n H o u) : RH Γ (ext ι h.n p) (h.new o) H := by
  have mn : ∀ {o : VO} {u : HO}, RO Γ ι h.n H o u → RO Γ (ext ι h.n p) (h.n + 1) H o u := fun {o u} q => by
    cases q with
    | lst r => exact .lst (RVs.grow hf r)
    | frz ob r => exact .frz ob (RVs.grow hf r)
  refine ⟨fun n q e => ?_, fun a b ha hb e => ?_, fun n hn => ?_⟩
  · rw [Hv.get_new] at e
    by_cases hn : n = h.n
    · subst hn
      rw [if_pos rfl] at e
      cases e
      rw [ext_same]
      exact ⟨u, hp, mn ro⟩
    · rw [if_neg hn] at e
      obtain ⟨w, e1, e2⟩ := r.ob n q e
      refine ⟨w, ?_, mn e2⟩
      rw [ext_ne hn]
      exact e1
  · have ha' : a < h.n + 1 := ha
    have hb' : b < h.n + 1 := hb
    by_cases ea : a = h.n
    · by_cases eb : b = h.n
      · omega
      · subst ea
        rw [ext_same, ext_ne eb] at e
        exact absurd e.symm (hf b (by omega))
    · by_cases eb : b = h.n
      · subst eb
        rw [ext_same, ext_ne ea] at e
        exact absurd e (hf a (by omega))
      · rw [ext_ne ea, ext_ne eb] at e
        exact r.inj a b (by omega) (by omega) e
  · have hn' : n < h.n + 1 := hn
    rw [Hv.get_new]
    by_cases e : n = h.n
    · exact ⟨o, if_pos e⟩
    · rw [if_neg e]
      exact r.dom n (by omega)
theorem Stp.put {n : Nat} {u w : HO} {o : VO} (hn : n < h.n) (hp : H (ι n) = some w) (nt : NoT w) : Stp Γ ι h H ι (h.put n o) (upd H (ι n) u) :=
  ⟨fun _ _ => rfl, Nat.le_refl _, fun _ _ q => SqT.upd_old hp nt q, fun a w e hn' => (upd_ne (fun z => hn' n hn z.symm)).trans e, fun m h1 h2 => absurd h2 (by show ¬ m < h.n; omega), fun a v e => by
    by_cases z : a = ι n
    · exact ⟨u, by rw [z, upd_same]⟩
    · exact ⟨v, (upd_ne z).trans e⟩⟩
theorem RH.put {n : Nat} {u w : HO} {o : VO} (r : RH Γ ι h H) (hn : n < h.n) (hp : H (ι n) = some w) (nt : NoT w) (ro : RO Γ ι h.n H o u) : RH Γ ι (h.put n o) (upd H (ι n) u) := by
  have st : Stp Γ ι h H ι (h.put n o) (upd H (ι n) u) := Stp.put hn hp nt
  refine ⟨fun m q e => ?_, r.inj, fun m hm => ?_⟩
  · have hm : m < h.n := by have := Hv.get_lt e; exact this
    rw [Hv.get_put _ _ _ _ hn] at e
    by_cases em : m = n
    · subst em
      rw [if_pos rfl] at e
      cases e
      exact ⟨u, upd_same, ro.mono st⟩
    · rw [if_neg em] at e
      obtain ⟨v, e1, e2⟩ := r.ob m q e
      refine ⟨v, ?_, e2.mono st⟩
      rw [upd_ne (fun z => em (r.inj m n hm hn z))]
      exact e1
  · rw [Hv.get_put _ _ _ _ hn]
    by_cases em : m = n
    · exact ⟨o, if_pos em⟩
    · rw [if_neg em]
      exact r.dom m hm
end

section
variable {Γ : Gm} {ι : Nat → Addr} {sz : Nat} {H H' : Hp}
mutual
theorem RV.tups (t : ∀ a ys, SqT Γ.K H a ys → SqT Γ.K H' a ys) : ∀ {v : VV} {x : V}, RV Γ ι sz H v x → RV Γ ι sz H' v x
  | _, _, .non => .non
  | _, _, .bl b => .bl b
  | _, _, .int i => .int i
  | _, _, .str t e => .str t e
  | _, _, .tup q r => .tup (t _ _ q) (RVs.tups t r)
  | _, _, .ref n hn => .ref n hn
  | _, _, .fn n => .fn n
  | _, _, .cls n => .cls n
theorem RVs.tups (t : ∀ a ys, SqT Γ.K H a ys → SqT Γ.K H' a ys) : ∀ {vs : List VV} {xs : List V}, RVs Γ ι sz H vs xs → RVs Γ ι sz H' vs xs
  | _, _, .nil => .nil
  | _, _, .cons r s => .cons (RV.tups t r) (RVs.tups t s)
end
end

/-! ### slots -/
def RSl (Γ : Gm) (ι : Nat → Addr) (sz : Nat) (H : Hp) (σv : Sl) (σ : L2.St) : Prop := σv.length = σ.length ∧ ∀ (i : Nat) (v : VV), σv[i]? = some (some v) → ∃ x : V, σ[i]? = some (some x) ∧ RV Γ ι sz H v x
section
variable {Γ : Gm} {ι ι' : Nat → Addr} {h h' : Hv} {H H' : Hp} {σv : Sl} {σ : L2.St}
theorem RSl.mono (s : Stp Γ ι h H ι' h' H') (r : RSl Γ ι h.n H σv σ) : RSl Γ ι' h'.n H' σv σ := ⟨r.1, fun i v e => let ⟨x, e1, e2⟩ := r.2 i v e; ⟨x, e1, e2.mono s⟩⟩
theorem RSl.set {sz : Nat} {v : VV} {x : V} (r : RSl Γ ι sz H σv σ) (rv : RV Γ ι sz H v x) (i : Nat) : RSl Γ ι sz H (setSl σv i v) (σ.set i (some x)) := by
  refine ⟨by unfold setSl; rw [List.length_set, List.length_set]; exact r.1, fun j w e => ?_⟩
  unfold setSl at e
  by_cases hj : i = j
  · subst hj
    by_cases hl : i < σv.length
    · rw [List.getElem?_set_self hl] at e
      cases e
      exact ⟨x, List.getElem?_set_self (by rw [← r.1]; exact hl), rv⟩
    · rw [List.getElem?_eq_none (by rw [List.length_set]; omega)] at e
      cases e
  · rw [List.getElem?_set_ne hj] at e ⊢
    exact r.2 j w e
theorem RSl.wipe {sz : Nat} (r : RSl Γ ι sz H σv σ) : ∀ is : List Nat, RSl Γ ι sz H (wipes σv is) (L2.wipe σ is)
  | [] => r
  | i :: is => by
    obtain ⟨h1, h2⟩ := RSl.wipe r is
    unfold wipes
    show RSl Γ ι sz H ((wipes σv is).set i none) ((L2.wipe σ is).set i none)
    refine ⟨by rw [List.length_set, List.length_set]; exact h1, fun j w e => ?_⟩
    by_cases hj : i = j
    · subst hj
      by_cases hl : i < (wipes σv is).length
      · rw [List.getElem?_set_self hl] at e
        cases e
      · rw [List.getElem?_eq_none (by rw [List.length_set]; omega)] at e
        cases e
    · rw [List.getElem?_set_ne hj] at e ⊢
      exact h2 j w e
end

/-! ### what is wanted behind -/
/-- an exception: its class, what it carries -/
def RX (Γ : Gm) (ι : Nat → Addr) (sz : Nat) (H : Hp) (c : Nat) (p : Option VV) (cls : Value) (d : Option Addr) : Prop :=
  cls = .ref (Γ.ca c) ∧ match p with
    | none => d = none
    | some v => ∃ dx x, d = some dx ∧ H dx = some (.xd [(Γ.xf c, x)]) ∧ RV Γ ι sz H v x
def PostX (Γ : Gm) (ι : Nat → Addr) (h : Hv) (H : Hp) (Wx : Value → Option Addr → Hp → Prop) (c : Nat) (p : Option VV) (h1 : Hv) : Prop :=
  ∀ ι' cls d H', Stp Γ ι h H ι' h1 H' → RH Γ ι' h1 H' → RX Γ ι' h1.n H' c p cls d → Wx cls d H'
def Post (Γ : Gm) {α β : Type} (rel : (Nat → Addr) → Nat → Hp → α → β → Prop) (ι : Nat → Addr) (h : Hv) (H : Hp) (Wx : Value → Option Addr → Hp → Prop) (Q : β → Hp → Prop) (r : R α) : Prop := match r with
  | .ok v h1 => ∀ ι' x H', Stp Γ ι h H ι' h1 H' → RH Γ ι' h1 H' → rel ι' h1.n H' v x → Q x H'
  | .exc c p h1 => PostX Γ ι h H Wx c p h1
  | .fail => False
def rB (ι : Nat → Addr) (sz : Nat) (H : Hp) (a b : Bool) : Prop := b = a
abbrev PostE (Γ : Gm) := Post Γ (RV Γ)
abbrev PostB (Γ : Gm) := Post Γ rB
abbrev PostL (Γ : Gm) := Post Γ (RVs Γ)
section
variable {Γ : Gm} {ι ι' : Nat → Addr} {h h' : Hv} {H H' : Hp} {Wx : Value → Option Addr → Hp → Prop} {α β : Type} {rel : (Nat → Addr) → Nat → Hp → α → β → Prop} {Q Q' : β → Hp → Prop} {r : R α}
theorem PostX.step {c : Nat} {p : Option VV} {h1 : Hv} (s : Stp Γ ι h H ι' h' H') (q : PostX Γ ι h H Wx c p h1) : PostX Γ ι' h' H' Wx c p h1 := fun ι2 cls d H2 s2 r2 x2 => q ι2 cls d H2 (s.trans s2) r2 x2
theorem Post.step (s : Stp Γ ι h H ι' h' H') (q : Post Γ rel ι h H Wx Q r) : Post Γ rel ι' h' H' Wx Q r := by
  cases r with
  | ok v h1 => exact fun ι2 x H2 s2 r2 x2 => q ι2 x H2 (s.trans s2) r2 x2
  | exc c p h1 => exact PostX.step s q
  | fail => exact q
/-- one thing behind another -/
theorem Post.bind {α2 β2 : Type} {rel2 : (Nat → Addr) → Nat → Hp → α2 → β2 → Prop} {Q2 : β2 → Hp → Prop} {f : α → Hv → R α2} (q : Post Γ rel2 ι h H Wx Q2 (r.bind f)) :
    Post Γ rel ι h H Wx (fun x H1 => ∃ ι1 v h1, Stp Γ ι h H ι1 h1 H1 ∧ RH Γ ι1 h1 H1 ∧ rel ι1 h1.n H1 v x ∧ Post Γ rel2 ι1 h1 H1 Wx Q2 (f v h1)) r := by
  cases r with
  | ok v h1 => exact fun ι2 x H2 s2 r2 x2 => ⟨ι2, v, h1, s2, r2, x2, Post.step s2 q⟩
  | exc c p h1 => exact q
  | fail => exact q
theorem Post.imp (q : Post Γ rel ι h H Wx Q r) (i : ∀ x H1, Q x H1 → Q' x H1) : Post Γ rel ι h H Wx Q' r := by
  cases r with
  | ok v h1 => exact fun ι2 x H2 s2 r2 x2 => i _ _ (q ι2 x H2 s2 r2 x2)
  | exc c p h1 => exact q
  | fail => exact q
/-- a thing done at once -/
theorem Post.now {v : α} {x : β} (q : Post Γ rel ι h H Wx Q (.ok v h)) (rh : RH Γ ι h H) (rv : rel ι h.n H v x) : Q x H := q ι x H Stp.refl rh rv
def PostO (Γ : Gm) {α β : Type} (rel : (Nat → Addr) → Nat → Hp → α → β → Prop) (ι : Nat → Addr) (h : Hv) (H : Hp) (Q : β → Hp → Prop) (o : O α) : Prop := match o with
  | some (v, h1) => ∀ ι' x H', Stp Γ ι h H ι' h1 H' → RH Γ ι' h1 H' → rel ι' h1.n H' v x → Q x H'
  | none => False
theorem Post.ofO {o : O α} (q : Post Γ rel ι h H Wx Q (.of o)) : PostO Γ rel ι h H Q o := by
  cases o with
  | none => exact q
  | some a => exact q
theorem Post.lift {o : Option α} (q : Post Γ rel ι h H Wx Q (lift h o)) : PostO Γ rel ι h H Q (o.map fun a => (a, h)) := by
  cases o with
  | none => exact q
  | some a => exact q
end

/-! ### readings -/
section
variable (Γ : Gm) (W : WX)
def TEo (f : Sl → Hv → R VV) : TE := fun σ H Q => ∃ ι σv h, RSl Γ ι h.n H σv σ ∧ RH Γ ι h H ∧ PostE Γ ι h H (fun cls d H' => W cls d σ H') Q (f σv h)
def TTo (f : Sl → Hv → R Bool) : TT := fun σ H Q => ∃ ι σv h, RSl Γ ι h.n H σv σ ∧ RH Γ ι h H ∧ PostB Γ ι h H (fun cls d H' => W cls d σ H') Q (f σv h)
def TAo (f : Sl → Hv → R (List VV)) : TA := fun σ H Q => ∃ ι σv h, RSl Γ ι h.n H σv σ ∧ RH Γ ι h H ∧ PostL Γ ι h H (fun cls d H' => W cls d σ H') Q (f σv h)
end
theorem _root_.L2.PE.imp {X : Cx} {e : Expr} {t t' : TE} (p : PE X e t) (i : ∀ σ H Q, t' σ H Q → t σ H Q) : PE X e t' := ⟨fun pins s σ H Q I q => p.run pins s σ H Q I (i σ H Q q)⟩
theorem _root_.L2.PT.imp {X : Cx} {e : Expr} {t t' : TT} (p : PT X e t) (i : ∀ σ H Q, t' σ H Q → t σ H Q) : PT X e t' := ⟨fun pins s σ H Q I q => p.run pins s σ H Q I (i σ H Q q)⟩
theorem _root_.L2.PA.imp {X : Cx} {e : List Expr} {t t' : TA} (p : PA X e t) (i : ∀ σ H Q, t' σ H Q → t σ H Q) : PA X e t' := ⟨fun pos pins s σ H Q I q => p.run pos pins s σ H Q I (i σ H Q q)⟩
theorem _root_.L2.PS.imp {X : Cx} {e : Stmt} {t t' : TS} (p : PS X e t) (i : ∀ D σ H, t' D σ H → t D σ H) : PS X e t' := ⟨fun pins s σ H D I q => p.run pins s σ H D I (i D σ H q)⟩
theorem _root_.L2.PSs.imp {X : Cx} {e : List Stmt} {t t' : TS} (p : PSs X e t) (i : ∀ D σ H, t' D σ H → t D σ H) : PSs X e t' := ⟨fun pins s σ H D I q => p.run pins s σ H D I (i D σ H q)⟩
end VI

end
section
/-! VD: the operations keep what they say. Own work. -/
namespace VI
open PySem PySem.Spec PyProof.Rows L2

/-! ### data -/
mutual
def Dt.py : Dt → PyData
  | .non => .none
  | .bl b => .bool b
  | .int i => .int i
  | .str s => .str (toS s)
  | .lst xs => .list (Dt.pys xs)
  | .tup xs => .tuple (Dt.pys xs)
def Dt.pys : List Dt → List PyData
  | [] => []
  | x :: xs => x.py :: Dt.pys xs
end
theorem beq_toS (s t : Tx) : (toS s == toS t) = teq s t := by
  rw [teq_eq]
  by_cases e : s = t
  · subst e; simp
  · rw [decide_eq_false e]
    exact beq_eq_false_iff_ne.mpr fun q => e (toS_inj q)
theorem allEq_eqv {f : Dt → Dt → Bool} {k : Nat} (hf : ∀ d e : Dt, d.py.depth < k → f d e = PyData.eqv d.py e.py) :
    ∀ xs ys : List Dt, PyData.depthAll (Dt.pys xs) < k → allEq f xs ys = PyData.eqvAll (Dt.pys xs) (Dt.pys ys)
  | [], [], _ => by simp [allEq, Dt.pys, PyData.eqvAll]
  | [], _ :: _, _ => by simp [allEq, Dt.pys, PyData.eqvAll]
  | _ :: _, [], _ => by simp [allEq, Dt.pys, PyData.eqvAll]
  | x :: xs, y :: ys, h => by
    simp only [Dt.pys, PyData.depthAll] at h
    simp only [allEq, Dt.pys, PyData.eqvAll]
    rw [hf x y (by omega), allEq_eqv hf xs ys (by omega)]
theorem deq_eqv : ∀ (k : Nat) (d e : Dt), d.py.depth < k → deq k d e = PyData.eqv d.py e.py := by
  intro k
  induction k with
  | zero => intro d e h; omega
  | succ k ih =>
    intro d e h
    cases d with
    | lst xs =>
      cases e with
      | lst ys =>
        simp only [Dt.py, PyData.depth] at h
        simp only [deq, Dt.py, PyData.eqv]
        exact allEq_eqv ih xs ys (by omega)
      | _ => simp [deq, Dt.py, PyData.eqv]
    | tup xs =>
      cases e with
      | tup ys =>
        simp only [Dt.py, PyData.depth] at h
        simp only [deq, Dt.py, PyData.eqv]
        exact allEq_eqv ih xs ys (by omega)
      | _ => simp [deq, Dt.py, PyData.eqv]
    | str s =>
      cases e with
      | str t => simp only [deq, Dt.py, PyData.eqv]; exact (beq_toS s t).symm
      | _ => simp [deq, Dt.py, PyData.eqv]
    | bl b => cases e <;> cases b <;> simp [deq, Dt.py, PyData.eqv, b2i]
    | int i =>
      cases e with
      | bl q => cases q <;> simp [deq, Dt.py, PyData.eqv, b2i]
      | _ => simp [deq, Dt.py, PyData.eqv, b2i]
    | non => cases e <;> simp [deq, Dt.py, PyData.eqv, b2i]
section
variable {Γ : Gm} {ι : Nat → Addr} {h : Hv} {H : Hp}
theorem strOk_toS {s : Tx} (k : okT s) : PyData.strOk (toS s) = true := by
  simp only [PyData.strOk, toS]
  simpa [okT] using k
theorem optAll_dp {f : VV → Option Dt} {k : Nat} (hf : ∀ v x d, RV Γ ι h.n H v x → f v = some d → Dp Γ.K H x d.py ∧ d.py.depth ≤ k ∧ d.py.canLay0 = true) :
    ∀ (vs : List VV) (xs : List V) (ds : List Dt), RVs Γ ι h.n H vs xs → optAll f vs = some ds → DpAll Γ.K H xs (Dt.pys ds) ∧ PyData.depthAll (Dt.pys ds) ≤ k ∧ PyData.canLayAll0 (Dt.pys ds) = true
  | [], _, ds, .nil, e => by
    simp only [optAll, Option.some.injEq] at e
    subst e
    exact ⟨.nil, by simp [Dt.pys, PyData.depthAll], by simp [Dt.pys, PyData.canLayAll0]⟩
  | v :: vs, _, ds, .cons r t, e => by
    simp only [optAll] at e
    cases e1 : f v with
    | none => rw [e1] at e; cases e
    | some d =>
      rw [e1] at e
      cases e2 : optAll f vs with
      | none => rw [e2] at e; cases e
      | some es =>
        rw [e2] at e
        cases e
        obtain ⟨a1, a2, a3⟩ := hf v _ d r e1
        obtain ⟨b1, b2, b3⟩ := optAll_dp hf vs _ es t e2
        refine ⟨.cons a1 b1, ?_, ?_⟩
        · simp only [Dt.pys, PyData.depthAll]
          omega
        · simp only [Dt.pys, PyData.canLayAll0, a3, b3, Bool.and_self]
theorem dt_dp (rh : RH Γ ι h H) : ∀ (k : Nat) (v : VV) (x : V) (d : Dt), RV Γ ι h.n H v x → dt h k v = some d → Dp Γ.K H x d.py ∧ d.py.depth ≤ k ∧ d.py.canLay0 = true := by
  intro k
  induction k with
  | zero => intro v x d r e; cases e
  | succ k ih =>
    intro v x d r e
    have fin : ∀ {xs : List VV} {ys : List V} {ds : List Dt}, RVs Γ ι h.n H xs ys → optAll (dt h k) xs = some ds → DpAll Γ.K H ys (Dt.pys ds) ∧ PyData.depthAll (Dt.pys ds) + 1 ≤ k + 1 ∧ PyData.canLayAll0 (Dt.pys ds) = true := by
      intro xs ys ds rs es
      obtain ⟨b1, b2, b3⟩ := optAll_dp (fun v x d => ih v x d) xs ys ds rs es
      exact ⟨b1, by omega, b3⟩
    unfold dt at e
    cases r with
    | non => cases e; exact ⟨.non, by simp [Dt.py, PyData.depth], by simp [Dt.py, PyData.canLay0]⟩
    | bl b => cases e; exact ⟨.bl b, by simp [Dt.py, PyData.depth], by simp [Dt.py, PyData.canLay0]⟩
    | int i => cases e; exact ⟨.int i, by simp [Dt.py, PyData.depth], by simp [Dt.py, PyData.canLay0]⟩
    | str s q => cases e; exact ⟨.str _, by simp [Dt.py, PyData.depth], by simp only [Dt.py, PyData.canLay0]; exact strOk_toS q⟩
    | @tup xs a ys q rs =>
      simp only at e
      cases e1 : optAll (dt h k) xs with
      | none => rw [e1] at e; cases e
      | some ds =>
        rw [e1] at e
        cases e
        obtain ⟨b1, b2, b3⟩ := fin rs e1
        exact ⟨.tup q b1, by simpa [Dt.py, PyData.depth] using b2, by simpa [Dt.py, PyData.canLay0] using b3⟩
    | ref n hn =>
      simp only at e
      cases eo : h.get n with
      | none => rw [eo] at e; cases e
      | some o =>
        rw [eo] at e
        obtain ⟨u, e1, ro⟩ := rh.ob n o eo
        cases ro with
        | @lst xs ys rs =>
          simp only at e
          cases e2 : optAll (dt h k) xs with
          | none => rw [e2] at e; cases e
          | some ds =>
            rw [e2] at e
            cases e
            obtain ⟨b1, b2, b3⟩ := fin rs e2
            exact ⟨.lst (SqL.of e1) b1, by simpa [Dt.py, PyData.depth] using b2, by simpa [Dt.py, PyData.canLay0] using b3⟩
        | @frz xs ys ob rs =>
          simp only at e
          cases e2 : optAll (dt h k) xs with
          | none => rw [e2] at e; cases e
          | some ds =>
            rw [e2] at e
            cases e
            obtain ⟨b1, b2, b3⟩ := fin rs e2
            exact ⟨.lst (.inl (.inr ⟨ob, e1⟩)) b1, by simpa [Dt.py, PyData.depth] using b2, by simpa [Dt.py, PyData.canLay0] using b3⟩
    | fn n => cases e
    | cls n => cases e
theorem veq_ok {a b : VV} {x y : V} {k : Bool} (rh : RH Γ ι h H) (ra : RV Γ ι h.n H a x) (rb : RV Γ ι h.n H b y) (e : veq h a b = some k) :
    ∃ d f, Dp Γ.K H x d ∧ Dp Γ.K H y f ∧ SeqAt.shaped d = true ∧ SeqAt.shaped f = true ∧ PyData.eqv d f = k := by
  unfold veq at e
  cases e1 : dt h DEEP a with
  | none => rw [e1] at e; cases e
  | some d =>
    rw [e1] at e
    cases e2 : dt h DEEP b with
    | none => rw [e2] at e; cases e
    | some f =>
      rw [e2] at e
      obtain ⟨a1, a2, a3⟩ := dt_dp rh DEEP a x d ra e1
      obtain ⟨b1, b2, b3⟩ := dt_dp rh DEEP b y f rb e2
      have l1 : d.py.depth ≤ 60 := a2
      have l2 : f.py.depth ≤ 60 := b2
      refine ⟨d.py, f.py, a1, b1, ?_, ?_, ?_⟩
      · simp only [SeqAt.shaped, a3, Bool.true_and]
        exact decide_eq_true (by omega)
      · simp only [SeqAt.shaped, b3, Bool.true_and]
        exact decide_eq_true (by omega)
      · rw [← deq_eqv 61 d f (by omega)]
        exact Option.some.inj e
end

/-! ### operations of two values -/
def rO (Γ : Gm) (f : VV → VV → Hv → O VV) : R2 := fun x y H Q => ∃ ι h a b, RH Γ ι h H ∧ RV Γ ι h.n H a x ∧ RV Γ ι h.n H b y ∧ PostO Γ (RV Γ) ι h H Q (f a b h)
def rC (Γ : Gm) (f : VV → VV → Hv → Option Bool) : R2 := fun x y H Q => ∃ ι h a b, RH Γ ι h H ∧ RV Γ ι h.n H a x ∧ RV Γ ι h.n H b y ∧ match f a b h with
  | some k => Q (.bl k) H
  | none => False
section
variable {Γ : Gm} {X : Cx}
theorem LEN_eq : LEN = sizeLine := by rw [sizeLine_eq]; rfl
theorem ble_le {a b : Nat} (h : Nat.ble a b = true) : a ≤ b := Nat.le_of_ble_eq_true h
theorem blt_lt {a b : Nat} (h : Nat.blt a b = true) : a < b := Nat.le_of_ble_eq_true h
theorem o_add : OpR X (binaryOp .Add) (rO Γ vAdd) := by
  intro pins s σ H x y v u Q I rx ry ⟨ι, h, a, b, rh, ra, rb, q⟩
  cases a with
  | int i =>
    cases b with
    | int j =>
      have e1 := ra.intV
      have e2 := rb.intV
      exact op_add pins s σ H x y v u Q I rx ry ⟨i, j, e1, e2, q ι _ H Stp.refl rh (.int _)⟩
    | _ => exact q.elim
  | str p =>
    cases b with
    | str t =>
      obtain ⟨e1, k1⟩ := ra.strV
      obtain ⟨e2, k2⟩ := rb.strV
      simp only [vAdd] at q
      cases z : Nat.ble (p.length + t.length) LEN with
      | false => rw [z] at q; exact q.elim
      | true =>
        rw [z] at q
        have z1 := ble_le z
        rw [LEN_eq] at z1
        have app : toS p ++ toS t = toS (p ++ t) := by
          show (⟨(toS p).cps ++ (toS t).cps⟩ : Str) = _
          simp [toS]
        exact op_add_str pins s σ H x y v u Q I rx ry ⟨toS p, toS t, e1, e2, by rw [toS_len, toS_len]; exact z1, by rw [app]; exact q ι _ H Stp.refl rh (.str _ (k1.app k2))⟩
    | _ => exact q.elim
  | _ => exact q.elim
theorem o_sub : OpR X (binaryOp .Sub) (rO Γ vSub) := by
  intro pins s σ H x y v u Q I rx ry ⟨ι, h, a, b, rh, ra, rb, q⟩
  cases a with
  | int i =>
    cases b with
    | int j => exact op_sub pins s σ H x y v u Q I rx ry ⟨i, j, ra.intV, rb.intV, q ι _ H Stp.refl rh (.int _)⟩
    | _ => exact q.elim
  | _ => exact q.elim
theorem pw64 : (18446744073709551616 : Nat) = 2 ^ 64 := by decide
theorem mulOk_ok {i j : Int} (h : mulOk i j = true) : CMul i j ∨ CMulW i j := by
  unfold mulOk at h
  rcases Bool.or_eq_true_iff.mp h with h | h
  · have := blt_lt h
    exact .inl (.inl (by omega))
  · rcases Bool.or_eq_true_iff.mp h with h | h
    · have := blt_lt h
      exact .inl (.inr (by omega))
    · exact .inr (blt_lt h)
theorem o_mul : OpR X (binaryOp .Mult) (rO Γ vMul) := by
  intro pins s σ H x y v u Q I rx ry ⟨ι, h, a, b, rh, ra, rb, q⟩
  cases a with
  | int i =>
    cases b with
    | int j =>
      simp only [vMul] at q
      cases z : mulOk i j with
      | false => rw [z] at q; exact q.elim
      | true =>
        rw [z] at q
        have q' := q ι _ H Stp.refl rh (.int _)
        rcases mulOk_ok z with c | c
        · exact op_mul pins s σ H x y v u Q I rx ry ⟨i, j, ra.intV, rb.intV, c, q'⟩
        · exact op_mulW pins s σ H x y v u Q I rx ry ⟨i, j, ra.intV, rb.intV, c, q'⟩
    | _ => exact q.elim
  | _ => exact q.elim
theorem fdivOk_ok {j : Int} (h : fdivOk j = true) : CDivW 0 j := by
  cases j with
  | ofNat n =>
    obtain ⟨h1, h2⟩ := Bool.and_eq_true_iff.mp (show (Nat.blt 0 n && Nat.blt n.log2 9000) = true from h)
    exact ⟨by have := blt_lt h1; show (0 : Int) < (n : Int); omega, blt_lt h2⟩
  | negSucc n => cases h
theorem posI_ok {j : Int} (h : posI j = true) : 0 < j := by
  cases j with
  | ofNat n =>
    have := blt_lt (show Nat.blt 0 n = true from h)
    show (0 : Int) < (n : Int)
    omega
  | negSucc n => cases h
theorem o_fdiv : OpR X (binaryOp .FloorDiv) (rO Γ vFdiv) := by
  intro pins s σ H x y v u Q I rx ry ⟨ι, h, a, b, rh, ra, rb, q⟩
  cases a with
  | int i =>
    cases b with
    | int j =>
      simp only [vFdiv] at q
      cases z : fdivOk j with
      | false => rw [z] at q; exact q.elim
      | true =>
        rw [z] at q
        exact op_fdivW pins s σ H x y v u Q I rx ry ⟨i, j, ra.intV, rb.intV, fdivOk_ok z, q ι _ H Stp.refl rh (.int _)⟩
    | _ => exact q.elim
  | _ => exact q.elim
theorem o_mod : OpR X (binaryOp .Mod) (rO Γ vMod) := by
  intro pins s σ H x y v u Q I rx ry ⟨ι, h, a, b, rh, ra, rb, q⟩
  cases a with
  | int i =>
    cases b with
    | int j =>
      simp only [vMod] at q
      cases z : posI j with
      | false => rw [z] at q; exact q.elim
      | true =>
        rw [z] at q
        exact op_mod pins s σ H x y v u Q I rx ry ⟨i, j, ra.intV, rb.intV, posI_ok z, q ι _ H Stp.refl rh (.int _)⟩
    | _ => exact q.elim
  | _ => exact q.elim
theorem o_pow : OpR X (binaryOp .Pow) (rO Γ vPow) := by
  intro pins s σ H x y v u Q I rx ry ⟨ι, h, a, b, rh, ra, rb, q⟩
  cases a with
  | int i =>
    cases b with
    | int j =>
      cases j with
      | ofNat n =>
        simp only [vPow] at q
        cases z : Nat.ble n 1000000 && Nat.blt i.natAbs 18446744073709551616 with
        | false => rw [z] at q; exact q.elim
        | true =>
          rw [z] at q
          obtain ⟨z1, z2⟩ := Bool.and_eq_true_iff.mp z
          have l1 := ble_le z1
          have l2 := blt_lt z2
          exact op_pow pins s σ H x y v u Q I rx ry ⟨i, .ofNat n, ra.intV, rb.intV, ⟨Int.natCast_nonneg n, by show (n : Int) ≤ 1000000; omega, by omega⟩, q ι _ H Stp.refl rh (.int _)⟩
      | negSucc n => exact q.elim
    | _ => exact q.elim
  | _ => exact q.elim
def bopOf : BOp → Operator
  | .add => .Add
  | .sub => .Sub
  | .mul => .Mult
  | .fdiv => .FloorDiv
  | .mod => .Mod
  | .pow => .Pow
theorem o_bin (o : BOp) : OpR X (binaryOp (bopOf o)) (rO Γ (binop o)) := by
  cases o with
  | add => exact o_add
  | sub => exact o_sub
  | mul => exact o_mul
  | fdiv => exact o_fdiv
  | mod => exact o_mod
  | pow => exact o_pow

/-! ### comparisons -/
def copOf : COp → CmpOp
  | .eq => .Eq
  | .ne => .NotEq
  | .lt => .Lt
  | .le => .LtE
  | .gt => .Gt
  | .ge => .GtE
  | .is_ => .Is
  | .isn => .IsNot
  | .in_ => .In
  | .nin => .NotIn
theorem o_int2 {op : CmpOp} {g : Int → Int → Bool} (ho : OpR X (compareOp op) (rI0 fun i j => .bl (g i j))) : OpR X (compareOp op) (rC Γ fun a b _ => vInt2 g a b) := by
  intro pins s σ H x y v u Q I rx ry ⟨ι, h, a, b, rh, ra, rb, q⟩
  cases a with
  | int i =>
    cases b with
    | int j => exact ho pins s σ H x y v u Q I rx ry ⟨i, j, ra.intV, rb.intV, q⟩
    | _ => exact q.elim
  | _ => exact q.elim
theorem nonV_iff {ι : Nat → Addr} {sz : Nat} {H : Hp} {a : VV} {x : V} (r : RV Γ ι sz H a x) : decide (x = .non) = isNon a := by
  cases r <;> rfl
theorem o_cmp (hK : X.K = Γ.K) (hu : X.A.units + 64 < cLine) (o : COp) : OpR X (compareOp (copOf o)) (rC Γ (cmpop o)) := by
  cases o with
  | eq =>
    intro pins s σ H x y v u Q I rx ry ⟨ι, h, a, b, rh, ra, rb, q⟩
    cases e : veq h a b with
    | none => simp only [cmpop, e] at q
    | some k =>
      simp only [cmpop, e] at q
      obtain ⟨d, f, h1, h2, h3, h4, h5⟩ := veq_ok rh ra rb e
      refine op_eqD hu pins s σ H x y v u Q I rx ry ⟨d, f, by rw [hK]; exact h1, by rw [hK]; exact h2, h3, h4, by rw [h5]; exact q⟩
  | ne =>
    intro pins s σ H x y v u Q I rx ry ⟨ι, h, a, b, rh, ra, rb, q⟩
    cases e : veq h a b with
    | none => simp only [cmpop, e, Option.map_none] at q
    | some k =>
      simp only [cmpop, e, Option.map_some] at q
      obtain ⟨d, f, h1, h2, h3, h4, h5⟩ := veq_ok rh ra rb e
      refine op_neD hu pins s σ H x y v u Q I rx ry ⟨d, f, by rw [hK]; exact h1, by rw [hK]; exact h2, h3, h4, by rw [h5]; exact q⟩
  | lt => exact o_int2 op_lt
  | le => exact o_int2 op_le
  | gt => exact o_int2 op_gt
  | ge => exact o_int2 op_ge
  | is_ =>
    intro pins s σ H x y v u Q I rx ry ⟨ι, h, a, b, rh, ra, rb, q⟩
    cases b with
    | non =>
      simp only [cmpop] at q
      exact op_isN pins s σ H x y v u Q I rx ry ⟨rb.nonV, by rw [nonV_iff ra]; exact q⟩
    | _ => exact q.elim
  | isn =>
    intro pins s σ H x y v u Q I rx ry ⟨ι, h, a, b, rh, ra, rb, q⟩
    cases b with
    | non =>
      simp only [cmpop] at q
      exact op_notN pins s σ H x y v u Q I rx ry ⟨rb.nonV, by rw [nonV_iff ra]; exact q⟩
    | _ => exact q.elim
  | in_ => exact fun pins s σ H x y v u Q I rx ry ⟨ι, h, a, b, rh, ra, rb, q⟩ => q.elim
  | nin => exact fun pins s σ H x y v u Q I rx ry ⟨ι, h, a, b, rh, ra, rb, q⟩ => q.elim
end
end VI

end
section
/-! VE: built-ins, items, isinstance. Own work. -/
namespace VI
open PySem PySem.Spec PyProof.Rows L2

def rL (Γ : Gm) (f : List VV → Hv → O VV) : List V → Hp → VK → Prop := fun xs H Q => ∃ ι h vs, RH Γ ι h H ∧ RVs Γ ι h.n H vs xs ∧ PostO Γ (RV Γ) ι h H Q (f vs h)
section
variable {Γ : Gm} {X : Cx} {ι : Nat → Addr} {h : Hv} {H : Hp}
/-! ### lists and tuples that are read -/
theorem seqOf_ok (hK : X.K = Γ.K) (rh : RH Γ ι h H) {a : VV} {x : V} {xs : List VV} (ra : RV Γ ι h.n H a x) (e : seqOf h a = some xs) :
    ∃ p ys, x = .ref p ∧ (SqL X.K H p ys ∨ SqT X.K H p ys) ∧ RVs Γ ι h.n H xs ys := by
  cases ra with
  | tup q rs =>
    cases e
    exact ⟨_, _, rfl, .inr (by rw [hK]; exact q), rs⟩
  | ref n hn =>
    simp only [seqOf] at e
    cases eo : h.get n with
    | none => rw [eo] at e; cases e
    | some o =>
      rw [eo] at e
      obtain ⟨u, e1, ro⟩ := rh.ob n o eo
      cases ro with
      | lst rs => cases e; exact ⟨_, _, rfl, .inl (SqL.of e1), rs⟩
      | frz ob rs => cases e; exact ⟨_, _, rfl, .inl (.inl (.inr ⟨ob, e1⟩)), rs⟩
  | _ => cases e
theorem itemI_atI {α : Type} {xs : List α} {k : Int} {v : α} (e : itemI xs k = some v) : atI xs k = some v := by
  unfold atI ixN
  cases k with
  | ofNat n =>
    have e' : xs[n]? = some v := e
    have hn : n < xs.length := (List.getElem?_eq_some_iff.mp e').1
    rw [if_pos (show (0 : Int) ≤ Int.ofNat n from Int.natCast_nonneg n), if_pos (show (Int.ofNat n) < (xs.length : Int) by show (n : Int) < _; omega)]
    exact e'
  | negSucc n =>
    simp only [itemI] at e
    cases z : Nat.ble (n + 1) xs.length with
    | false => rw [z] at e; cases e
    | true =>
      rw [z] at e
      have hn := ble_le z
      rw [if_neg (show ¬ (0 : Int) ≤ Int.negSucc n by omega)]
      have e2 : -(xs.length : Int) ≤ Int.negSucc n := by omega
      first
        | (rw [if_pos e2]
           show xs[_]? = _
           have : ((xs.length : Int) + Int.negSucc n).toNat = xs.length - (n + 1) := by omega
           rw [this]; exact e)
        | (rw [if_pos e2]
           show xs[_]? = _
           have : (Int.negSucc n + (xs.length : Int)).toNat = xs.length - (n + 1) := by omega
           rw [this]; exact e)
theorem itemI_rel {sz : Nat} {xs : List VV} {ys : List V} {k : Int} {v : VV} (r : RVs Γ ι sz H xs ys) (e : itemI xs k = some v) : ∃ y, itemI ys k = some y ∧ RV Γ ι sz H v y := by
  have hl := r.length
  cases k with
  | ofNat n => exact r.get e
  | negSucc n =>
    simp only [itemI] at e ⊢
    cases z : Nat.ble (n + 1) xs.length with
    | false => rw [z] at e; cases e
    | true =>
      rw [z] at e
      rw [← hl, z]
      exact r.get e
theorem ix_item (hK : X.K = Γ.K) : IxR X (rO Γ item) := by
  intro value slice pins s σ H x y v u Q I rx ry ⟨ι, h, a, b, rh, ra, rb, q⟩ hs
  cases b with
  | int k =>
    have e2 := rb.intV
    have sq : ∀ xs, seqOf h a = some xs → PostO Γ (RV Γ) ι h H Q (liftO h (itemI xs k)) → wpAny (model X.prog X.w) X.A (subscriptTail value slice v u) (EP X pins σ Q) X.xe s := by
      intro xs es q
      obtain ⟨p, ys, e1, hq, rs⟩ := seqOf_ok hK rh ra es
      cases z : itemI xs k with
      | none => rw [z] at q; exact q.elim
      | some w =>
        rw [z] at q
        obtain ⟨y', h1, h2⟩ := itemI_rel rs z
        have q' := q ι y' H Stp.refl rh h2
        rcases hq with hq | hq
        · exact ix_list value slice pins s σ H x y v u Q I rx ry ⟨p, ys, k, y', e1, e2, hq, itemI_atI h1, q'⟩ hs
        · exact ix_tup value slice pins s σ H x y v u Q I rx ry ⟨p, ys, k, y', e1, e2, hq, itemI_atI h1, q'⟩ hs
    cases a with
    | str t =>
      simp only [item] at q
      cases z : Nat.ble t.length LEN with
      | false => rw [z] at q; exact q.elim
      | true =>
        rw [z] at q
        cases w : itemI t k with
        | none => rw [w] at q; exact q.elim
        | some c =>
          rw [w] at q
          obtain ⟨e1, k1⟩ := ra.strV
          have hl := ble_le z
          rw [LEN_eq] at hl
          have hc : c ∈ t := by
            have := itemI_atI w
            unfold atI at this
            cases zz : ixN t.length k with
            | none => rw [zz] at this; cases this
            | some j => rw [zz] at this; exact List.mem_of_getElem? this
          have q' := q ι (.str (toS [c])) H Stp.refl rh (.str _ (fun d hd => by
            have : d = c := by simpa using hd
            subst this
            exact k1 _ hc))
          exact ix_str value slice pins s σ H x y v u Q I rx ry ⟨toS t, k, c, e1, e2, by rw [toS_len]; exact hl, by rw [toS_list]; exact itemI_atI w, q'⟩ hs
    | tup xs => exact sq xs rfl (by simpa [item, seqOf] using q)
    | ref n =>
      cases es : seqOf h (.ref n) with
      | none => simp only [item, es] at q; exact q.elim
      | some xs => simp only [item, es] at q; exact sq xs es q
    | _ => exact q.elim
  | _ => exact q.elim

/-! ### built-in functions -/
theorem rvs1 {sz : Nat} {v : VV} {xs : List V} (r : RVs Γ ι sz H [v] xs) : ∃ x, xs = [x] ∧ RV Γ ι sz H v x := by
  cases r with
  | cons r t => cases t; exact ⟨_, rfl, r⟩
theorem rvs2 {sz : Nat} {v w : VV} {xs : List V} (r : RVs Γ ι sz H [v, w] xs) : ∃ x y, xs = [x, y] ∧ RV Γ ι sz H v x ∧ RV Γ ι sz H w y := by
  cases r with
  | cons r t =>
    obtain ⟨y, rfl, ry⟩ := rvs1 t
    exact ⟨_, _, rfl, r, ry⟩
theorem rvs3 {sz : Nat} {v w z : VV} {xs : List V} (r : RVs Γ ι sz H [v, w, z] xs) : ∃ x y t, xs = [x, y, t] ∧ RV Γ ι sz H v x ∧ RV Γ ι sz H w y ∧ RV Γ ι sz H z t := by
  cases r with
  | cons r t =>
    obtain ⟨y, t', rfl, ry, rt⟩ := rvs2 t
    exact ⟨_, _, _, rfl, r, ry, rt⟩
variable {α : Type} {Q : V → Hp → Prop}
theorem a0_ok {f : Hv → O VV} {vs : List VV} (q : PostO Γ (RV Γ) ι h H Q (a0 f vs h)) : vs = [] ∧ PostO Γ (RV Γ) ι h H Q (f h) := by
  cases vs with
  | nil => exact ⟨rfl, q⟩
  | cons v t => exact q.elim
theorem a1_ok {f : VV → Hv → O VV} {vs : List VV} (q : PostO Γ (RV Γ) ι h H Q (a1 f vs h)) : ∃ v, vs = [v] ∧ PostO Γ (RV Γ) ι h H Q (f v h) := by
  cases vs with
  | nil => exact q.elim
  | cons v t =>
    cases t with
    | nil => exact ⟨v, rfl, q⟩
    | cons _ _ => exact q.elim
theorem a2_ok {f : VV → VV → Hv → O VV} {vs : List VV} (q : PostO Γ (RV Γ) ι h H Q (a2 f vs h)) : ∃ v w, vs = [v, w] ∧ PostO Γ (RV Γ) ι h H Q (f v w h) := by
  cases vs with
  | nil => exact q.elim
  | cons v t =>
    obtain ⟨w, rfl, q'⟩ := a1_ok (f := f v) q
    exact ⟨v, w, rfl, q'⟩
theorem a3_ok {f : VV → VV → VV → Hv → O VV} {vs : List VV} (q : PostO Γ (RV Γ) ι h H Q (a3 f vs h)) : ∃ v w z, vs = [v, w, z] ∧ PostO Γ (RV Γ) ι h H Q (f v w z h) := by
  cases vs with
  | nil => exact q.elim
  | cons v t =>
    obtain ⟨w, z, rfl, q'⟩ := a2_ok (f := f v) q
    exact ⟨v, w, z, rfl, q'⟩
theorem c_len (hK : X.K = Γ.K) : CallR X (.builtin "len") (rL Γ (callBi .len)) := by
  intro pins s σ H xs us Q I r ⟨ι, h, vs, rh, rv, qa⟩
  obtain ⟨v, rfl, q⟩ := a1_ok (f := vLen) qa
  obtain ⟨x, rfl, rx⟩ := rvs1 rv
  have sq : ∀ ys, seqOf h v = some ys → PostO Γ (RV Γ) ι h H Q (some (.int ys.length, h)) → wpAny (model X.prog X.w) X.A (call (.builtin "len") us) (EP X pins σ Q) X.xe s := by
    intro ys es q
    obtain ⟨p, zs, e1, hq, rs⟩ := seqOf_ok hK rh rx es
    have q' := q ι _ H Stp.refl rh (.int _)
    subst e1
    refine call_len pins s σ H [.ref p] us Q I r ⟨.ref p, ys.length, rfl, ?_, q'⟩
    rcases hq with hq | hq
    · exact .inl ⟨zs, hq, rs.length⟩
    · exact .inr ⟨zs, hq, rs.length⟩
  have gen : (∀ t, v ≠ .str t) → wpAny (model X.prog X.w) X.A (call (.builtin "len") us) (EP X pins σ Q) X.xe s := by
    intro hn
    cases es : seqOf h v with
    | none => cases v <;> first | exact absurd rfl (hn _) | (simp only [vLen, es] at q; exact q.elim)
    | some ys => cases v <;> first | exact absurd rfl (hn _) | (simp only [vLen, es] at q; exact sq ys es q)
  cases v with
  | str t =>
    obtain ⟨e1, k1⟩ := rx.strV
    subst e1
    simp only [vLen] at q
    cases z : Nat.ble t.length LEN with
    | false => rw [z] at q; exact q.elim
    | true =>
      rw [z] at q
      have hl := ble_le z
      rw [LEN_eq] at hl
      exact call_len pins s σ H _ us Q I r ⟨.str (toS t), t.length, rfl, ⟨by rw [toS_len]; exact hl, (toS_len t).symm⟩, q ι _ H Stp.refl rh (.int _)⟩
  | _ => exact gen fun _ e => nomatch e
theorem natAbs_if (i : Int) : (i.natAbs : Int) = if i < 0 then -i else i := by
  by_cases h : i < 0
  · rw [if_pos h]; omega
  · rw [if_neg h]; omega
theorem c_abs : CallR X (.builtin "abs") (rL Γ (callBi .abs)) := by
  intro pins s σ H xs us Q I r ⟨ι, h, vs, rh, rv, qa⟩
  obtain ⟨v, rfl, q⟩ := a1_ok qa
  obtain ⟨x, rfl, rx⟩ := rvs1 rv
  cases v with
  | int i =>
    have e := rx.intV
    subst e
    exact call_abs pins s σ H _ us Q I r ⟨i, rfl, by rw [← natAbs_if]; exact q ι _ H Stp.refl rh (.int _)⟩
  | _ => exact q.elim
theorem ints2 {f : Int → Int → O VV} {g : VV → VV → Hv → O VV} (hg : ∀ a b, PostO Γ (RV Γ) ι h H Q (g a b h) → ∃ i j, a = .int i ∧ b = .int j) {vs : List VV} {xs : List V} (rv : RVs Γ ι h.n H vs xs) (qa : PostO Γ (RV Γ) ι h H Q (a2 g vs h)) :
    ∃ i j, vs = [.int i, .int j] ∧ xs = [.int i, .int j] ∧ PostO Γ (RV Γ) ι h H Q (g (.int i) (.int j) h) := by
  obtain ⟨a, b, rfl, q⟩ := a2_ok qa
  obtain ⟨x, y, rfl, rx, ry⟩ := rvs2 rv
  obtain ⟨i, j, rfl, rfl⟩ := hg a b q
  exact ⟨i, j, rfl, by rw [rx.intV, ry.intV], q⟩
theorem c_max2 (hc : X.calm = true) : CallR X (.builtin "max") (rL Γ (callBi .max2)) := by
  intro pins s σ H xs us Q I r ⟨ι, h, vs, rh, rv, qa⟩
  obtain ⟨i, j, rfl, rfl, q⟩ := ints2 (f := fun _ _ => none) (fun a b q => by
    cases a <;> first | exact q.elim | (cases b <;> first | exact q.elim | exact ⟨_, _, rfl, rfl⟩)) rv qa
  exact call_max2 hc pins s σ H _ us Q I r ⟨i, j, rfl, q ι _ H Stp.refl rh (.int _)⟩
theorem c_min2 (hc : X.calm = true) : CallR X (.builtin "min") (rL Γ (callBi .min2)) := by
  intro pins s σ H xs us Q I r ⟨ι, h, vs, rh, rv, qa⟩
  obtain ⟨i, j, rfl, rfl, q⟩ := ints2 (f := fun _ _ => none) (fun a b q => by
    cases a <;> first | exact q.elim | (cases b <;> first | exact q.elim | exact ⟨_, _, rfl, rfl⟩)) rv qa
  exact call_min2 hc pins s σ H _ us Q I r ⟨i, j, rfl, q ι _ H Stp.refl rh (.int _)⟩
theorem c_max3 (hc : X.calm = true) : CallR X (.builtin "max") (rL Γ (callBi .max3)) := by
  intro pins s σ H xs us Q I r ⟨ι, h, vs, rh, rv, qa⟩
  obtain ⟨a, b, c, rfl, q⟩ := a3_ok qa
  obtain ⟨x, y, z, rfl, rx, ry, rz⟩ := rvs3 rv
  cases a with
  | int i =>
    cases b with
    | int j =>
      cases c with
      | int k =>
        have e1 := rx.intV
        have e2 := ry.intV
        have e3 := rz.intV
        subst e1 e2 e3
        refine call_max3Nu hc pins s σ H _ us Q I r ⟨.int i, .int j, .int k, .int (imax (imax i j) k), rfl, ?_, q ι _ H Stp.refl rh (.int _)⟩
        have m2 : ∀ a b : Int, nuMax2 (.int a) (.int b) = some (.int (imax a b)) := fun a b => by
          show some (if decide (a < b) = true then V.int b else V.int a) = _
          unfold imax
          by_cases z : a < b
          · rw [if_pos (decide_eq_true z), if_pos z]
          · rw [if_neg (by simpa using z), if_neg z]
        unfold nuMax3
        rw [m2]
        exact m2 _ _
      | _ => exact q.elim
    | _ => exact q.elim
  | _ => exact q.elim
theorem c_int : CallR X (.type "int") (rL Γ (callBi .int_)) := by
  intro pins s σ H xs us Q I r ⟨ι, h, vs, rh, rv, qa⟩
  obtain ⟨v, rfl, q⟩ := a1_ok qa
  obtain ⟨x, rfl, rx⟩ := rvs1 rv
  cases v with
  | int i =>
    have e := rx.intV
    subst e
    exact call_int1 pins s σ H _ us Q I r (.inl ⟨i, rfl, q ι _ H Stp.refl rh (.int _)⟩)
  | bl b =>
    have e := rx.blV
    subst e
    refine call_int1 pins s σ H _ us Q I r (.inr ⟨b, rfl, ?_⟩)
    have q' := q ι _ H Stp.refl rh (.int _)
    cases b <;> exact q'
  | _ => exact q.elim
theorem c_divmod : CallR X (.builtin "divmod") (rL Γ (callBi .divmod)) := by
  intro pins s σ H xs us Q I r ⟨ι, h, vs, rh, rv, qa⟩
  obtain ⟨i, j, rfl, rfl, q⟩ := ints2 (f := fun _ _ => none) (fun a b q => by
    cases a <;> first | exact q.elim | (cases b <;> first | exact q.elim | exact ⟨_, _, rfl, rfl⟩)) rv qa
  simp only [vDivmod] at q
  cases z : fdivOk j with
  | false => rw [z] at q; exact q.elim
  | true =>
    rw [z] at q
    have c := fdivOk_ok z
    refine call_divmodW pins s σ H _ us Q I r ⟨i, j, rfl, ⟨c.1, PyProof.noPylong_of_log2 c.2⟩, fun p hp => ?_⟩
    exact q ι (.ref p) _ (Stp.side hp) (rh.side hp) (.tup (SqT.of upd_same) (.cons (.int _) (.cons (.int _) .nil)))

/-! ### methods -/
def rM (Γ : Gm) (f : VV → List VV → Hv → O VV) : V → List V → Hp → VK → Prop := fun x xs H Q => ∃ ι h a vs, RH Γ ι h H ∧ RV Γ ι h.n H a x ∧ RVs Γ ι h.n H vs xs ∧ PostO Γ (RV Γ) ι h H Q (f a vs h)
theorem m_append : MtM X "list.append" (rM Γ (callBm .append)) := by
  intro pins s σ H x xs v us Q I rx rs ⟨ι, h, a, vs, rh, ra, rv, qa⟩
  obtain ⟨w, rfl, q⟩ := a1_ok (f := vAppend a) qa
  obtain ⟨y, rfl, ry⟩ := rvs1 rv
  cases a with
  | ref n =>
    obtain ⟨e1, hn⟩ := ra.refV
    simp only [vAppend] at q
    cases eo : h.get n with
    | none => rw [eo] at q; exact q.elim
    | some o =>
      rw [eo] at q
      cases o with
      | lst ys =>
        obtain ⟨u, e2, ro⟩ := rh.ob n _ eo
        cases ro with
        | @lst _ zs rz =>
          simp only at q
          cases z : Nat.blt ys.length LEN with
          | false => rw [z] at q; exact q.elim
          | true =>
            rw [z] at q
            have hl := blt_lt z
            rw [LEN_eq, rz.length] at hl
            have nt : NoT (HO.lst zs) := ⟨fun _ e => (by cases e), fun _ _ e => (by cases e)⟩
            refine mt_append pins s σ H x _ v us Q I rx rs ⟨ι n, zs, y, e1, rfl, e2, hl, ?_⟩
            exact q ι .non _ (Stp.put hn e2 nt) (rh.put hn e2 nt (.lst (rz.append (.one ry)))) .non
      | _ => exact q.elim
  | _ => exact q.elim

/-! ### isinstance -/
def tyStr : Ty → String
  | .int_ => "int"
  | .bool_ => "bool"
  | .str_ => "str"
  | .tup_ => "tuple"
  | .list_ => "list"
  | .cls _ => "object"
theorem tyx_of (hK : X.K = Γ.K) (rh : RH Γ ι h H) {v : VV} {x : V} (r : RV Γ ι h.n H v x) {t : Ty} {b : Bool} (e : isTy h v t = some b) :
    ∃ ty, TyX X.K H x ty ∧ PySem.W.kitOne X.K ty (.type (tyStr t)) = some b ∧ ∀ c, t ≠ .cls c := by
  cases r with
  | non => cases t <;> first | (cases e; done) | (cases e; exact ⟨_, .base .non, by rfl, fun _ z => nomatch z⟩)
  | bl b => cases t <;> first | (cases e; done) | (cases e; exact ⟨_, .base (.bl b), by rfl, fun _ z => nomatch z⟩)
  | int i => cases t <;> first | (cases e; done) | (cases e; exact ⟨_, .base (.int i), by rfl, fun _ z => nomatch z⟩)
  | str s k => cases t <;> first | (cases e; done) | (cases e; exact ⟨_, .base (.str _), by rfl, fun _ z => nomatch z⟩)
  | @tup xs a ys q rs =>
    rw [← hK] at q
    have ty : TyX X.K H (.ref a) (.type "tuple") := by
      rcases q with (q | ⟨o, q⟩) | ⟨o, its, n, q1, q2, _⟩
      · exact .base (.tup q)
      · exact .fTuple q
      · exact .kTuple q1 q2
    cases t <;> first | (cases e; done) | (cases e; exact ⟨_, ty, by rfl, fun _ z => nomatch z⟩)
  | ref n hn =>
    simp only [isTy] at e
    cases eo : h.get n with
    | none => rw [eo] at e; cases e
    | some o =>
      rw [eo] at e
      obtain ⟨u, e1, ro⟩ := rh.ob n o eo
      cases ro with
      | lst rs => cases t <;> first | (cases e; done) | (cases e; exact ⟨_, .base (.lst e1), by rfl, fun _ z => nomatch z⟩)
      | frz ob rs => cases e
  | fn n => cases e
  | cls n => cases e
end
end VI

end
section
/-! VF: expressions. Own work. -/
namespace VI
open PySem PySem.Spec PyProof.Rows L2

structure Lk (Γ : Gm) (X : Cx) (W : WX) (k : Nat) : Prop where
  P : X.prog = Γ.P
  w : X.w = Γ.w
  K : X.K = Γ.K
  mg : X.mg = Γ.mg
  base : X.base = Γ.base
  calm : X.calm = true
  room : Room k X.A
  tk : L2N.Takes X W
  nd : X.N.Nodup

section
variable {Γ : Gm} {X : Cx} {W : WX} {k : Nat}
/-- a place where nothing is done: what is wanted holds there -/
theorem TEo.now {f : Sl → Hv → R VV} {σ : L2.St} {H : Hp} {Q : VK} {v : VV} (x : V) (hf : ∀ σv h, f σv h = .ok v h) (hx : ∀ ι sz H, RV Γ ι sz H v x) (q : TEo Γ W f σ H Q) : Q x H := by
  obtain ⟨ι, σv, h, rs, rh, q⟩ := q
  have q : PostE Γ ι h H (fun cls d H' => W cls d σ H') Q (f σv h) := q
  rw [hf] at q
  exact Post.now q rh (hx _ _ _)
theorem e_non {j pos} : PE X (.Constant .none j pos) (TEo Γ W fun _ h => .ok .non h) := pe_non.imp fun _ _ _ q => TEo.now .non (fun _ _ => rfl) (fun _ _ _ => .non) q
theorem e_bl {b j pos} : PE X (.Constant (.bool b) j pos) (TEo Γ W fun _ h => .ok (.bl b) h) := pe_bl.imp fun _ _ _ q => TEo.now (.bl b) (fun _ _ => rfl) (fun _ _ _ => .bl b) q
theorem e_int {i j pos} : PE X (.Constant (.int i) j pos) (TEo Γ W fun _ h => .ok (.int i) h) := pe_int.imp fun _ _ _ q => TEo.now (.int i) (fun _ _ => rfl) (fun _ _ _ => .int i) q
theorem e_str {x j pos} {t : Tx} (e : x = toS t) (ok : okT t) : PE X (.Constant (.str x) j pos) (TEo Γ W fun _ h => .ok (.str t) h) := by
  subst e
  exact pe_str.imp fun _ _ _ q => TEo.now (.str (toS t)) (fun _ _ => rfl) (fun _ _ _ => .str t ok) q
theorem e_var {i : Nat} {x : Str} {pos : Pos} (hN : X.N[i]? = some x) (hv : Vis X.env.scope x) (hd : (x == ("__debug__" : Str)) = false) (hcd : (x == ("__classdict__" : Str)) = false) :
    PE X (.Name x pos) (TEo Γ W fun σ h => getv σ i h) := (pe_var hN hv hd hcd).imp fun σ H Q ⟨ι, σv, h, rs, rh, q⟩ => by
  have q : PostE Γ ι h H (fun cls d H' => W cls d σ H') Q (getv σv i h) := q
  unfold getv at q
  cases e : σv[i]? with
  | none => rw [e] at q; exact q.elim
  | some o =>
    cases o with
    | none => rw [e] at q; exact q.elim
    | some v =>
      rw [e] at q
      obtain ⟨x, e1, rv⟩ := rs.2 i v e
      exact ⟨x, e1, Post.now q rh rv⟩
theorem e_glo {x : Str} {pos : Pos} {v : VV} {xv : V} {u : Value} (hg : Gl X x) (hm : X.mg x = some u) (r : RelV xv u) (hd : (x == ("__debug__" : Str)) = false) (hv : ∀ ι sz H, RV Γ ι sz H v xv) :
    PE X (.Name x pos) (TEo Γ W fun _ h => .ok v h) := (pe_glob hg hm r hd).imp fun _ _ _ q => TEo.now xv (fun _ _ => rfl) hv q
/-! ### operations -/
variable {a b c : Expr} {da db dc : Den} {pos : Pos}
theorem e_bin {o : BOp} (ha : PE X a (TEo Γ W da.e)) (hb : PE X b (TEo Γ W db.e)) : PE X (.BinOp a (bopOf o) b pos) (TEo Γ W (dBin o da db).e) :=
  (pe_op (o_bin (Γ := Γ) o) ha hb).imp fun σ H Q ⟨ι, σv, h, rs, rh, q⟩ => ⟨ι, σv, h, rs, rh, (Post.bind q).imp fun x H1 ⟨ι1, v, h1, s1, rh1, rv1, q1⟩ =>
    ⟨ι1, σv, h1, rs.mono s1, rh1, (Post.bind q1).imp fun y H2 ⟨ι2, u, h2, s2, rh2, rv2, q2⟩ => ⟨ι2, h2, v, u, rh2, rv1.mono s2, rv2, Post.ofO q2⟩⟩⟩
theorem e_neg (ha : PE X a (TEo Γ W da.e)) : PE X (.UnaryOp .USub a pos) (TEo Γ W (dNeg da).e) :=
  (pe_un un_neg ha).imp fun σ H Q ⟨ι, σv, h, rs, rh, q⟩ => ⟨ι, σv, h, rs, rh, (Post.bind q).imp fun x H1 ⟨ι1, v, h1, s1, rh1, rv1, q1⟩ => by
    cases v with
    | int i => exact ⟨i, rv1.intV, Post.now q1 rh1 (.int _)⟩
    | _ => exact q1.elim⟩
/-! ### truth -/
theorem truth_ok (hK : X.K = Γ.K) {ι : Nat → Addr} {h : Hv} {H : Hp} {v : VV} {x : V} {b : Bool} (r : RV Γ ι h.n H v x) (e : truth v h = some b) : TruV X.K x H b := by
  cases r with
  | non => cases e; rfl
  | bl b => cases e; rfl
  | int i => cases e; rfl
  | str s k =>
    simp only [truth] at e
    cases z : Nat.ble s.length LEN with
    | false => rw [z] at e; cases e
    | true =>
      rw [z] at e
      cases e
      have hl := ble_le z
      rw [LEN_eq] at hl
      exact ⟨by rw [toS_len]; exact hl, by rw [toS_len]⟩
  | tup q rs =>
    cases e
    refine .inr (.inl ⟨_, by rw [hK]; exact q, ?_⟩)
    cases rs <;> rfl
  | ref n hn => cases e
  | fn n => cases e
  | cls n => cases e
/-- a value's truth, behind it -/
theorem truth_post (hK : X.K = Γ.K) {ι : Nat → Addr} {h : Hv} {H : Hp} {v : VV} {x : V} {Wx : Value → Option Addr → Hp → Prop} {β : Type} {rel : (Nat → Addr) → Nat → Hp → β → β → Prop} {α2 β2 : Type} {rel2 : (Nat → Addr) → Nat → Hp → α2 → β2 → Prop} {Q : β2 → Hp → Prop} {f : Bool → Hv → R α2}
    (r : RV Γ ι h.n H v x) (q : Post Γ rel2 ι h H Wx Q ((lift h (truth v h)).bind f)) : ∃ b, TruV X.K x H b ∧ Post Γ rel2 ι h H Wx Q (f b h) := by
  cases e : truth v h with
  | none => rw [e] at q; exact q.elim
  | some b => rw [e] at q; exact ⟨b, truth_ok hK r e, q⟩
theorem t_of (hK : X.K = Γ.K) {f : Sl → Hv → R VV} (ha : PE X a (TEo Γ W f)) (he : ∀ whole, isTrue a X.env whole = (do let v ← whole; standAt a.pos; holding [v] (truthy v))) : PT X a (TTo Γ W (Den.of f).t) :=
  (pt_truth ha he).imp fun σ H Q ⟨ι, σv, h, rs, rh, q⟩ => ⟨ι, σv, h, rs, rh, (Post.bind q).imp fun x H1 ⟨ι1, v, h1, s1, rh1, rv1, q1⟩ => by
    cases e : truth v h1 with
    | none => rw [e] at q1; exact q1.elim
    | some b => rw [e] at q1; exact ⟨b, truth_ok hK rv1 e, Post.now q1 rh1 rfl⟩⟩
theorem e_not (hK : X.K = Γ.K) (ha : PE X a (TEo Γ W da.e)) : PE X (.UnaryOp .Not a pos) (TEo Γ W (dNot da).e) :=
  (pe_notT ha).imp fun σ H Q ⟨ι, σv, h, rs, rh, q⟩ => ⟨ι, σv, h, rs, rh, (Post.bind q).imp fun x H1 ⟨ι1, v, h1, s1, rh1, rv1, q1⟩ => by
    cases e : truth v h1 with
    | none => rw [e] at q1; exact q1.elim
    | some b => rw [e] at q1; exact ⟨b, truth_ok hK rv1 e, Post.now q1 rh1 (.bl _)⟩⟩
theorem t_not (ha : PT X a (TTo Γ W da.t)) : PT X (.UnaryOp .Not a pos) (TTo Γ W (dNot da).t) :=
  (pt_not ha).imp fun σ H Q ⟨ι, σv, h, rs, rh, q⟩ => ⟨ι, σv, h, rs, rh, (Post.bind q).imp fun x H1 ⟨ι1, v, h1, s1, rh1, rv1, q1⟩ => by
    have rv1 : x = v := rv1
    subst rv1
    exact Post.now q1 rh1 rfl⟩
/-! ### and, or -/
inductive Dns (X : Cx) (Γ : Gm) (W : WX) : List Expr → List Den → Prop where
  | nil : Dns X Γ W [] []
  | cons {a : Expr} {as : List Expr} {d : Den} {ds : List Den} : PE X a (TEo Γ W d.e) → PT X a (TTo Γ W d.t) → (∀ env, starEach (a :: as) env = (false, eval a env) :: starEach as env) → Dns X Γ W as ds → Dns X Γ W (a :: as) (d :: ds)
theorem Post.eta {ι : Nat → Addr} {h : Hv} {H : Hp} {Wx : Value → Option Addr → Hp → Prop} {Q : Bool → Hp → Prop} {r : R Bool} {f : Bool → Hv → R Bool} (hf : ∀ b h, f b h = .ok b h) (q : PostB Γ ι h H Wx Q (r.bind f)) : PostB Γ ι h H Wx Q r := by
  cases r with
  | ok b h1 =>
    have q' : PostB Γ ι h H Wx Q (f b h1) := q
    rw [hf] at q'
    exact q'
  | exc c p h1 => exact q
  | fail => exact q
theorem t_and : ∀ {as : List Expr} {ds : List Den}, Dns X Γ W as ds → as ≠ [] → PW X (.BoolOp .And as pos) (TTo Γ W (andT ds))
  | [a], [d], .cons _ ht _ .nil, _ => by
    refine ⟨fun wh pins s σ H Q I q => (pw_and1 ht).run wh pins s σ H Q I ?_⟩
    obtain ⟨ι, σv, h, rs, rh, q⟩ := q
    exact ⟨ι, σv, h, rs, rh, Post.eta (fun b h => by cases b <;> rfl) q⟩
  | a :: b :: as, d :: d2 :: ds, .cons _ ht _ t, _ => by
    have ih := t_and t (by simp)
    refine ⟨fun wh pins s σ H Q I q => (pw_and ht ih).run wh pins s σ H Q I ?_⟩
    obtain ⟨ι, σv, h, rs, rh, q⟩ := q
    refine ⟨ι, σv, h, rs, rh, (Post.bind q).imp fun x H1 ⟨ι1, v, h1, s1, rh1, rv1, q1⟩ => ?_⟩
    have rv1 : x = v := rv1
    subst rv1
    cases x with
    | true => exact ⟨ι1, σv, h1, rs.mono s1, rh1, q1⟩
    | false => exact Post.now q1 rh1 rfl
theorem t_or : ∀ {as : List Expr} {ds : List Den}, Dns X Γ W as ds → as ≠ [] → PW X (.BoolOp .Or as pos) (TTo Γ W (orT ds))
  | [a], [d], .cons _ ht _ .nil, _ => by
    refine ⟨fun wh pins s σ H Q I q => (pw_or1 ht).run wh pins s σ H Q I ?_⟩
    obtain ⟨ι, σv, h, rs, rh, q⟩ := q
    exact ⟨ι, σv, h, rs, rh, Post.eta (fun b h => by cases b <;> rfl) q⟩
  | a :: b :: as, d :: d2 :: ds, .cons _ ht _ t, _ => by
    have ih := t_or t (by simp)
    refine ⟨fun wh pins s σ H Q I q => (pw_or ht ih).run wh pins s σ H Q I ?_⟩
    obtain ⟨ι, σv, h, rs, rh, q⟩ := q
    refine ⟨ι, σv, h, rs, rh, (Post.bind q).imp fun x H1 ⟨ι1, v, h1, s1, rh1, rv1, q1⟩ => ?_⟩
    have rv1 : x = v := rv1
    subst rv1
    cases x with
    | true => exact Post.now q1 rh1 rfl
    | false => exact ⟨ι1, σv, h1, rs.mono s1, rh1, q1⟩
theorem e_and (hK : X.K = Γ.K) : ∀ {as : List Expr} {ds : List Den}, Dns X Γ W as ds → as ≠ [] → PE X (.BoolOp .And as pos) (TEo Γ W (andV ds))
  | [a], [d], .cons he _ _ .nil, _ => pe_one he
  | a :: b :: as, d :: d2 :: ds, .cons he _ _ t, _ => by
    have ih := e_and hK t (by simp)
    refine (pe_andT he ih).imp fun σ H Q ⟨ι, σv, h, rs, rh, q⟩ => ⟨ι, σv, h, rs, rh, (Post.bind q).imp fun x H1 ⟨ι1, v, h1, s1, rh1, rv1, q1⟩ => ?_⟩
    cases e : truth v h1 with
    | none => rw [e] at q1; exact q1.elim
    | some b =>
      rw [e] at q1
      refine ⟨b, truth_ok hK rv1 e, ?_⟩
      cases b with
      | true => exact ⟨ι1, σv, h1, rs.mono s1, rh1, q1⟩
      | false => exact Post.now q1 rh1 rv1
theorem e_or (hK : X.K = Γ.K) : ∀ {as : List Expr} {ds : List Den}, Dns X Γ W as ds → as ≠ [] → PE X (.BoolOp .Or as pos) (TEo Γ W (orV ds))
  | [a], [d], .cons he _ _ .nil, _ => pe_one he
  | a :: b :: as, d :: d2 :: ds, .cons he _ _ t, _ => by
    have ih := e_or hK t (by simp)
    refine (pe_orT he ih).imp fun σ H Q ⟨ι, σv, h, rs, rh, q⟩ => ⟨ι, σv, h, rs, rh, (Post.bind q).imp fun x H1 ⟨ι1, v, h1, s1, rh1, rv1, q1⟩ => ?_⟩
    cases e : truth v h1 with
    | none => rw [e] at q1; exact q1.elim
    | some b =>
      rw [e] at q1
      refine ⟨b, truth_ok hK rv1 e, ?_⟩
      cases b with
      | true => exact Post.now q1 rh1 rv1
      | false => exact ⟨ι1, σv, h1, rs.mono s1, rh1, q1⟩
/-! ### comparisons -/
theorem bl1_post {ι : Nat → Addr} {h : Hv} {H : Hp} {Wx : Value → Option Addr → Hp → Prop} {Q : VK} {r : R Bool} (q : PostE Γ ι h H Wx Q (bl1 r)) : PostB Γ ι h H Wx (fun b H => Q (.bl b) H) r := by
  cases r with
  | ok b h1 =>
    intro ι' x H' st rh e
    have e' : x = b := e
    rw [e']
    exact q ι' (.bl b) H' st rh (.bl b)
  | exc c p h1 => exact q
  | fail => exact q
theorem cmp_core {o : COp} {σ : L2.St} {H : Hp} {Q : Bool → Hp → Prop} (q : TTo Γ W (cmpT o da db) σ H Q) :
    tOp (rC Γ (cmpop o)) (TEo Γ W da.e) (TEo Γ W db.e) σ H fun x H1 => ∃ k, x = .bl k ∧ Q k H1 := by
  obtain ⟨ι, σv, h, rs, rh, q⟩ := q
  refine ⟨ι, σv, h, rs, rh, (Post.bind q).imp fun x H1 ⟨ι1, v, h1, s1, rh1, rv1, q1⟩ => ⟨ι1, σv, h1, rs.mono s1, rh1, (Post.bind q1).imp fun y H2 ⟨ι2, u, h2, s2, rh2, rv2, q2⟩ => ⟨ι2, h2, v, u, rh2, rv1.mono s2, rv2, ?_⟩⟩⟩
  cases e : cmpop o v u h2 with
  | none => rw [e] at q2; exact q2.elim
  | some b => rw [e] at q2; exact ⟨b, rfl, Post.now q2 rh2 rfl⟩
theorem rC_imp {f : VV → VV → Hv → Option Bool} {x y : V} {H : Hp} {Q Q' : VK} (i : ∀ x H, Q x H → Q' x H) (q : rC Γ f x y H Q) : rC Γ f x y H Q' := by
  obtain ⟨ι, h, a, b, rh, ra, rb, q⟩ := q
  refine ⟨ι, h, a, b, rh, ra, rb, ?_⟩
  cases e : f a b h with
  | none => rw [e] at q; exact q.elim
  | some k => rw [e] at q; exact i _ _ q
theorem TEo.imp {f : Sl → Hv → R VV} {σ : L2.St} {H : Hp} {Q Q' : VK} (q : TEo Γ W f σ H Q) (i : ∀ x H, Q x H → Q' x H) : TEo Γ W f σ H Q' := by
  obtain ⟨ι, σv, h, rs, rh, q⟩ := q
  exact ⟨ι, σv, h, rs, rh, q.imp i⟩
theorem tOp_imp {r : R2} (hr : ∀ x y H Q Q', (∀ x H, Q x H → Q' x H) → r x y H Q → r x y H Q') {f g : Sl → Hv → R VV} {σ : L2.St} {H : Hp} {Q Q' : VK} (i : ∀ x H, Q x H → Q' x H) (q : tOp r (TEo Γ W f) (TEo Γ W g) σ H Q) : tOp r (TEo Γ W f) (TEo Γ W g) σ H Q' :=
  TEo.imp q fun x H1 q1 => TEo.imp q1 fun y H2 q2 => hr x y H2 Q Q' i q2
theorem TTo.bl1 {f : Sl → Hv → R Bool} {σ : L2.St} {H : Hp} {Q : VK} (q : TEo Γ W (fun σ h => bl1 (f σ h)) σ H Q) : TTo Γ W f σ H (fun b H => Q (.bl b) H) := by
  obtain ⟨ι, σv, h, rs, rh, q⟩ := q
  exact ⟨ι, σv, h, rs, rh, bl1_post q⟩
theorem e_cmp (hK : X.K = Γ.K) (hu : X.A.units + 64 < cLine) {o : COp} (ha : PE X a (TEo Γ W da.e)) (hb : PE X b (TEo Γ W db.e)) (hm : behindInMarks (copOf o) b = false) : PE X (.Compare a [copOf o] [b] pos) (TEo Γ W (dCmp o da db).e) :=
  (pe_cmpR (o_cmp (Γ := Γ) hK hu o) ha hb hm).imp fun σ H Q q => tOp_imp (r := rC Γ (cmpop o)) (Q := fun x H1 => ∃ k, x = .bl k ∧ Q (.bl k) H1) (fun _ _ _ _ _ i q => rC_imp i q) (fun x H1 ⟨k, e, q⟩ => by rw [e]; exact q) (cmp_core (TTo.bl1 q))
theorem t_cmp (hK : X.K = Γ.K) (hu : X.A.units + 64 < cLine) {o : COp} (ha : PE X a (TEo Γ W da.e)) (hb : PE X b (TEo Γ W db.e)) (hm : behindInMarks (copOf o) b = false) : PT X (.Compare a [copOf o] [b] pos) (TTo Γ W (dCmp o da db).t) :=
  (pt_cmpR (o_cmp (Γ := Γ) hK hu o) ha hb hm).imp fun σ H Q q => cmp_core q
theorem chn_core {o p : COp} {σ : L2.St} {H : Hp} {Q : Bool → Hp → Prop} (q : TTo Γ W (chnT o p da db dc) σ H Q) :
    tChain (rC Γ (cmpop o)) (rC Γ (cmpop p)) (TEo Γ W da.e) (TEo Γ W db.e) (TEo Γ W dc.e) σ H fun x H1 => ∃ k, x = .bl k ∧ Q k H1 := by
  obtain ⟨ι, σv, h, rs, rh, q⟩ := q
  refine ⟨ι, σv, h, rs, rh, (Post.bind q).imp fun x H1 ⟨ι1, v, h1, s1, rh1, rv1, q1⟩ => ⟨ι1, σv, h1, rs.mono s1, rh1, (Post.bind q1).imp fun y H2 ⟨ι2, u, h2, s2, rh2, rv2, q2⟩ => ⟨ι2, h2, v, u, rh2, rv1.mono s2, rv2, ?_⟩⟩⟩
  cases e : cmpop o v u h2 with
  | none => rw [e] at q2; exact q2.elim
  | some b =>
    rw [e] at q2
    simp only [lift, R.bind_ok] at q2
    refine ⟨b, rfl, ?_⟩
    cases b with
    | false => exact ⟨false, rfl, Post.now q2 rh2 rfl⟩
    | true =>
      simp only [if_true]
      refine ⟨ι2, σv, h2, (rs.mono s1).mono s2, rh2, (Post.bind q2).imp fun z H3 ⟨ι3, w, h3, s3, rh3, rv3, q3⟩ => ⟨ι3, h3, u, w, rh3, rv2.mono s3, rv3, ?_⟩⟩
      cases e : cmpop p u w h3 with
      | none => rw [e] at q3; exact q3.elim
      | some b => rw [e] at q3; exact ⟨b, rfl, Post.now q3 rh3 rfl⟩
theorem tChain_imp {r r' : R2} (hr : ∀ x y H Q Q', (∀ x H, Q x H → Q' x H) → r x y H Q → r x y H Q') (hr' : ∀ x y H Q Q', (∀ x H, Q x H → Q' x H) → r' x y H Q → r' x y H Q') {f g e : Sl → Hv → R VV} {σ : L2.St} {H : Hp} {Q Q' : VK} (i : ∀ x H, Q x H → Q' x H)
    (q : tChain r r' (TEo Γ W f) (TEo Γ W g) (TEo Γ W e) σ H Q) : tChain r r' (TEo Γ W f) (TEo Γ W g) (TEo Γ W e) σ H Q' :=
  TEo.imp q fun x H1 q1 => TEo.imp q1 fun y H2 q2 => hr x y H2 _ _ (fun z H3 ⟨k, e, q3⟩ => ⟨k, e, by
    cases k with
    | false => exact i _ _ q3
    | true => exact TEo.imp q3 fun w H4 q4 => hr' y w H4 _ _ i q4⟩) q2
theorem e_chn (hK : X.K = Γ.K) (hu : X.A.units + 64 < cLine) {o p : COp} (ha : PE X a (TEo Γ W da.e)) (hb : PE X b (TEo Γ W db.e)) (hc : PE X c (TEo Γ W dc.e)) (hm : lastMarks [copOf o, copOf p] [b, c] = false) :
    PE X (.Compare a [copOf o, copOf p] [b, c] pos) (TEo Γ W (dChn o p da db dc).e) :=
  (pe_chain (o_cmp (Γ := Γ) hK hu o) (o_cmp (Γ := Γ) hK hu p) ha hb hc hm).imp fun σ H Q q => tChain_imp (r := rC Γ (cmpop o)) (r' := rC Γ (cmpop p)) (Q := fun x H1 => ∃ k, x = .bl k ∧ Q (.bl k) H1) (fun _ _ _ _ _ i q => rC_imp i q) (fun _ _ _ _ _ i q => rC_imp i q) (fun x H1 ⟨k, e, q⟩ => by rw [e]; exact q) (chn_core (TTo.bl1 q))
theorem t_chn (hK : X.K = Γ.K) (hu : X.A.units + 64 < cLine) {o p : COp} (ha : PE X a (TEo Γ W da.e)) (hb : PE X b (TEo Γ W db.e)) (hc : PE X c (TEo Γ W dc.e)) (hm : lastMarks [copOf o, copOf p] [b, c] = false) :
    PT X (.Compare a [copOf o, copOf p] [b, c] pos) (TTo Γ W (dChn o p da db dc).t) :=
  (pt_chain (o_cmp (Γ := Γ) hK hu o) (o_cmp (Γ := Γ) hK hu p) ha hb hc hm).imp fun σ H Q q => chn_core q
theorem e_ife (hc : PT X c (TTo Γ W dc.t)) (ha : PE X a (TEo Γ W da.e)) (hb : PE X b (TEo Γ W db.e)) : PE X (.IfExp c a b pos) (TEo Γ W (dIfe dc da db).e) :=
  (pe_ifExp hc ha hb).imp fun σ H Q ⟨ι, σv, h, rs, rh, q⟩ => ⟨ι, σv, h, rs, rh, (Post.bind q).imp fun x H1 ⟨ι1, v, h1, s1, rh1, rv1, q1⟩ => by
    cases v with
    | true =>
      have e : x = true := rv1
      rw [e]
      exact ⟨ι1, σv, h1, rs.mono s1, rh1, q1⟩
    | false =>
      have e : x = false := rv1
      rw [e]
      exact ⟨ι1, σv, h1, rs.mono s1, rh1, q1⟩⟩
/-! ### lists of expressions -/
theorem a_list : ∀ {as : List Expr} {ds : List Den}, Dns X Γ W as ds → PA X as (TAo Γ W (Den.list ds))
  | [], [], .nil => pa_nil.imp fun σ H Q ⟨ι, σv, h, rs, rh, q⟩ => Post.now q rh .nil
  | a :: as, d :: ds, .cons he _ hs t => (pa_cons he (a_list t) (hs _)).imp fun σ H Q ⟨ι, σv, h, rs, rh, q⟩ => ⟨ι, σv, h, rs, rh, (Post.bind q).imp fun x H1 ⟨ι1, v, h1, s1, rh1, rv1, q1⟩ =>
      ⟨ι1, σv, h1, rs.mono s1, rh1, (Post.bind q1).imp fun xs H2 ⟨ι2, vs, h2, s2, rh2, rv2, q2⟩ => Post.now q2 rh2 (.cons (rv1.mono s2) rv2)⟩⟩
theorem list_len : ∀ {ds : List Den} {σ : Sl} {h : Hv} {vs : List VV} {h1 : Hv}, Den.list ds σ h = .ok vs h1 → vs.length = ds.length
  | [], _, _, _, _, e => by cases e; rfl
  | d :: ds, σ, h, vs, h1, e => by
    simp only [Den.list] at e
    cases e1 : d.e σ h with
    | ok v h2 =>
      rw [e1] at e
      simp only [R.bind_ok] at e
      cases e2 : Den.list ds σ h2 with
      | ok ws h3 =>
        rw [e2] at e
        simp only [R.bind_ok] at e
        cases e
        rw [List.length_cons, List.length_cons, list_len e2]
      | exc c p h3 => rw [e2] at e; cases e
      | fail => rw [e2] at e; cases e
    | exc c p h2 => rw [e1] at e; cases e
    | fail => rw [e1] at e; cases e
theorem Dns.len : ∀ {as : List Expr} {ds : List Den}, Dns X Γ W as ds → as.length = ds.length
  | _, _, .nil => rfl
  | _, _, .cons _ _ _ t => congrArg Nat.succ (Dns.len t)
theorem Post.bind' {α β α2 β2 : Type} {rel : (Nat → Addr) → Nat → Hp → α → β → Prop} {rel2 : (Nat → Addr) → Nat → Hp → α2 → β2 → Prop} {ι : Nat → Addr} {h : Hv} {H : Hp} {Wx : Value → Option Addr → Hp → Prop} {Q2 : β2 → Hp → Prop} {r : R α} {f : α → Hv → R α2} (q : Post Γ rel2 ι h H Wx Q2 (r.bind f)) :
    Post Γ rel ι h H Wx (fun x H1 => ∃ ι1 v h1, r = .ok v h1 ∧ Stp Γ ι h H ι1 h1 H1 ∧ RH Γ ι1 h1 H1 ∧ rel ι1 h1.n H1 v x ∧ Post Γ rel2 ι1 h1 H1 Wx Q2 (f v h1)) r := by
  cases r with
  | ok v h1 => exact fun ι2 x H2 s2 r2 x2 => ⟨ι2, v, h1, rfl, s2, r2, x2, Post.step s2 q⟩
  | exc c p h1 => exact q
  | fail => exact q
theorem e_tup {as : List Expr} {ds : List Den} {x1} (hd : Dns X Γ W as ds) (hl : as.length ≤ 1000) : PE X (.Tuple as x1 pos) (TEo Γ W (dTup ds).e) :=
  (pe_tup (a_list hd)).imp fun σ H Q ⟨ι, σv, h, rs, rh, q⟩ => ⟨ι, σv, h, rs, rh, (Post.bind' q).imp fun xs H1 ⟨ι1, vs, h1, er, s1, rh1, rv1, q1⟩ => by
    have hl2 : xs.length ≤ 1000 := by rw [← rv1.length, list_len er, ← hd.len]; exact hl
    refine ⟨by rw [sizeLine_eq]; omega, fun p hp => ?_⟩
    exact q1 ι1 (.ref p) _ (Stp.side hp) (rh1.side hp) (.tup (SqT.of upd_same) (rv1.mono (Stp.side hp)))⟩
theorem e_lst {as : List Expr} {ds : List Den} (hd : Dns X Γ W as ds) (hl : as.length ≤ 1000) : PE X (.List as pos) (TEo Γ W (dLst ds).e) :=
  (pe_lst (a_list hd)).imp fun σ H Q ⟨ι, σv, h, rs, rh, q⟩ => ⟨ι, σv, h, rs, rh, (Post.bind' q).imp fun xs H1 ⟨ι1, vs, h1, er, s1, rh1, rv1, q1⟩ => by
    have hl2 : xs.length ≤ 1000 := by rw [← rv1.length, list_len er, ← hd.len]; exact hl
    refine ⟨by rw [sizeLine_eq]; omega, fun p hp => ?_⟩
    have st : Stp Γ ι1 h1 H1 (ext ι1 h1.n p) (h1.new (.lst vs)) (upd H1 p (.lst xs)) := Stp.new hp
    have rn := RV.ref (Γ := Γ) (ι := ext ι1 h1.n p) (sz := (h1.new (.lst vs)).n) (H := upd H1 p (.lst xs)) h1.n (Nat.lt_succ_self _)
    rw [ext_same] at rn
    exact q1 _ (.ref p) _ st (rh1.new hp (.lst rv1)) rn⟩
end
end VI

end
section
/-! VG: calls, methods, items. Own work. -/
namespace VI
open PySem PySem.Spec PyProof.Rows L2

/-- a def's promise: what g says -/
def spV (Γ : Gm) (np : Nat) (g : List VV → Hv → R VV) : Sp := fun vs H Q E => ∃ ι h ws, RH Γ ι h H ∧ RVs Γ ι h.n H ws vs ∧ ws.length = np ∧ PostE Γ ι h H E Q (g ws h)
section
variable {Γ : Gm} {X : Cx} {W : WX} {k : Nat}
theorem Dns.plain : ∀ {as : List Expr} {ds : List Den} (pos : Pos), Dns X Γ W as ds → (backTo pos (starEach as X.env)).any (·.1) = false
  | [], [], _, .nil => rfl
  | a :: as, d :: ds, pos, .cons _ _ hs t => by
    rw [hs]
    show ((false : Bool) || (backTo pos (starEach as X.env)).any (·.1)) = false
    rw [Dns.plain pos t]
    rfl
theorem Dns.star : ∀ {as : List Expr} {ds : List Den}, Dns X Γ W as ds → starEach as X.env = as.map fun a => (false, eval a X.env)
  | [], [], .nil => rfl
  | a :: as, d :: ds, .cons _ _ hs t => by
    rw [hs, Dns.star t]
    rfl
variable {j np : Nat} {f : Addr} {fd : FuncData} {ps : List Str} {g : List VV → Hv → R VV} {x : Str} {p pos : Pos} {a : Expr} {as : List Expr} {ds : List Den}
theorem call_post {ι : Nat → Addr} {h : Hv} {H : Hp} {E : XK} {Q : VK} {ws : List VV} {vs : List V} (hg : ∀ ws h, g ws h = .fail ∨ ws.length = np) (rh : RH Γ ι h H) (rv : RVs Γ ι h.n H ws vs) (q : PostE Γ ι h H E Q (g ws h)) : spV Γ np g vs H Q E := by
  rcases hg ws h with e | e
  · rw [e] at q; exact q.elim
  · exact ⟨ι, h, ws, rh, rv, e, q⟩
theorem e_call (F : FnOk X.prog X.w X.K X.mg X.base (L2N.CX X.prog X.w) j f fd ps (spV Γ np g)) (hg' : ∀ ws h, g ws h = .fail ∨ ws.length = np) (hr : Room j X.A) (tk : L2N.Takes X W) (hg : Gl X x) (hm : X.mg x = some (.ref f)) (hk : PySem.W.keepIn X.K (.ref f) = true) (hb : Binds X.K fd ps [])
    (hdb : (x == ("__debug__" : Str)) = false) (hd : Dns X Γ W (a :: as) ds) : PE X (.Call (.Name x p) (a :: as) [] pos) (TEo Γ W fun σ h => (Den.list ds σ h).bind fun vs h1 => g vs h1) := by
  obtain ⟨d, ds, rfl, he, ht, hs, t⟩ : ∃ d ds', ds = d :: ds' ∧ PE X a (TEo Γ W d.e) ∧ PT X a (TTo Γ W d.t) ∧ (∀ env, starEach (a :: as) env = (false, eval a env) :: starEach as env) ∧ Dns X Γ W as ds' := by
    cases hd with
    | cons he ht hs t => exact ⟨_, _, rfl, he, ht, hs, t⟩
  exact (pe_callS F hr hg hm hk hb (fun σ => L2N.passAt tk σ) (a_list (.cons he ht hs t)) hdb (hs _) (t.plain _)).imp fun σ H Q ⟨ι, σv, h, rs, rh, q⟩ => ⟨ι, σv, h, rs, rh, (Post.bind q).imp fun vs H1 ⟨ι1, ws, h1, s1, rh1, rv1, q1⟩ => call_post hg' rh1 rv1 q1⟩
/-- the same, what lacks filled up by the defaults -/
theorem e_calld {dws : List VV} {dvs : List V} {dus : List Value} (F : FnOk X.prog X.w X.K X.mg X.base (L2N.CX X.prog X.w) j f fd ps (spV Γ np g)) (hg' : ∀ ws h, g ws h = .fail ∨ ws.length = np) (hr : Room j X.A) (tk : L2N.Takes X W) (hg : Gl X x) (hm : X.mg x = some (.ref f)) (hk : PySem.W.keepIn X.K (.ref f) = true) (hb : Binds X.K fd ps dus)
    (hv : Vals dvs dus) (hw : ∀ ι sz H, RVs Γ ι sz H dws dvs) (hdb : (x == ("__debug__" : Str)) = false) (hd : Dns X Γ W (a :: as) ds) : PE X (.Call (.Name x p) (a :: as) [] pos) (TEo Γ W fun σ h => (Den.list ds σ h).bind fun vs h1 => g (vs ++ dws) h1) := by
  obtain ⟨d, ds, rfl, he, ht, hs, t⟩ : ∃ d ds', ds = d :: ds' ∧ PE X a (TEo Γ W d.e) ∧ PT X a (TTo Γ W d.t) ∧ (∀ env, starEach (a :: as) env = (false, eval a env) :: starEach as env) ∧ Dns X Γ W as ds' := by
    cases hd with
    | cons he ht hs t => exact ⟨_, _, rfl, he, ht, hs, t⟩
  exact (pe_callSD F hr hg hm hk hb hv (fun σ => L2N.passAt tk σ) (a_list (.cons he ht hs t)) hdb (hs _) (t.plain _)).imp fun σ H Q ⟨ι, σv, h, rs, rh, q⟩ => ⟨ι, σv, h, rs, rh, (Post.bind q).imp fun vs H1 ⟨ι1, ws, h1, s1, rh1, rv1, q1⟩ => call_post hg' rh1 (rv1.append (hw _ _ _)) q1⟩
/-! ### keywords -/
def tCallNS (n m : Nat) (sp : Sp) (gV : List V → List V → List V) (E : L2.St → XK) (t tk : TA) : TE := fun σ H Q => t σ H fun vs H1 => tk σ H1 fun zs H2 => vs.length = n ∧ zs.length = m ∧ sp (gV vs zs) H2 Q (E σ)
theorem pe_callNS {sp : Sp} {n : Nat} {ks : List Str} {t tk : TA} {kws : List Keyword} {gg : List Value → List Value → List Value} {gV : List V → List V → List V} {E : L2.St → XK} {e : Expr} {es : List Expr} {CX : CXT}
    (F : FnOk X.prog X.w X.K X.mg X.base CX j f fd ps sp) (hr : Room j X.A) (hg : Gl X x) (hm : X.mg x = some (.ref f)) (hk : PySem.W.keepIn X.K (.ref f) = true) (hb : KBn X.K fd ps n ks gg gV) (hx : ∀ σ, PassesAt CX X σ (E σ))
    (ha : PA X (e :: es) t) (hkw : PK X kws tk) (hall : (backToKw pos (keywordEach kws X.env)).all (·.1.isSome) = true) (hks : (backToKw pos (keywordEach kws X.env)).filterMap (·.1) = ks)
    (hdb : (x == ("__debug__" : Str)) = false) (he : starEach (e :: es) X.env = (false, eval e X.env) :: starEach es X.env)
    (hpl : ((backTo pos (starEach (e :: es) X.env)).any (·.1) || (backToKw pos (keywordEach kws X.env)).any (·.1.isNone)) = false) :
    PE X (.Call (.Name x p) (e :: es) kws pos) (tCallNS n ks.length sp gV E t tk) := by
  refine ⟨fun pins s σ H Q I h => ?_⟩
  refine wpAny_Call_Name_kw (ld_glob I hg hm ?_ hdb)
  refine PySem.W.callWith_KW (h₀ := X.base) I.ok.mod.kin hk hall (thn (ha.run pos pins s σ H _ I h) fun us s1 ⟨vs, H1, I1, r, q⟩ => ?_) hpl he
  refine thn (hkw.run pos pins s1 σ H1 _ I1 q) fun ws s2 ⟨zs, H2, I2, rz, l1, l2, q2⟩ => ⟨I2.kIn, ?_⟩
  rw [hks]
  have r2 := hb.rel r rz
  refine wpAny_call (codeAny_mono (F.run X.A X.stack s2 H2 ⟨us, ks.zip ws⟩ (gg us ws) (gV vs zs) Q (E σ) hr I2.env0 (hb.to s2 us ws I2.kIn (r.length.symm.trans l1) (rz.length.symm.trans l2)) r2 q2) fun r s' hq => ?_)
  cases r with
  | error e => exact hx σ pins H2 s2 e s' I2 hq
  | ok fl =>
    cases fl with
    | ret u => exact I2.after hq
    | next => exact False.elim hq
    | brk => exact False.elim hq
    | cont => exact False.elim hq
/-- f(.., k = e): one keyword, the last parameter -/
theorem e_callk {n : Nat} {kn : Str} {b : Expr} {db : Den} {kpos : Pos} (F : FnOk X.prog X.w X.K X.mg X.base (L2N.CX X.prog X.w) j f fd ps (spV Γ np g)) (hg' : ∀ ws h, g ws h = .fail ∨ ws.length = np) (hr : Room j X.A) (tk : L2N.Takes X W) (hg : Gl X x) (hm : X.mg x = some (.ref f)) (hk : PySem.W.keepIn X.K (.ref f) = true)
    (hb : KBn X.K fd ps n [kn] (fun us ws => us ++ ws) (fun vs zs => vs ++ zs)) (hdb : (x == ("__debug__" : Str)) = false) (hd : Dns X Γ W (a :: as) ds) (hn : (a :: as).length = n) (hbv : PE X b (TEo Γ W db.e)) :
    PE X (.Call (.Name x p) (a :: as) [⟨some kn, b, kpos⟩] pos) (TEo Γ W fun σ h => (Den.list ds σ h).bind fun vs h1 => (Den.list [db] σ h1).bind fun ws h2 => g (vs ++ ws) h2) := by
  obtain ⟨d, ds, rfl, he, ht, hs, t⟩ : ∃ d ds', ds = d :: ds' ∧ PE X a (TEo Γ W d.e) ∧ PT X a (TTo Γ W d.t) ∧ (∀ env, starEach (a :: as) env = (false, eval a env) :: starEach as env) ∧ Dns X Γ W as ds' := by
    cases hd with
    | cons he ht hs t => exact ⟨_, _, rfl, he, ht, hs, t⟩
  have hall := Dns.plain pos (Dns.cons he ht hs t)
  refine (pe_callNS F hr hg hm hk hb (fun σ => L2N.passAt tk σ) (a_list (.cons he ht hs t)) (pk_cons hbv pk_nil) (by rfl) (by rfl) hdb (hs _) (by rw [hall]; rfl)).imp fun σ H Q ⟨ι, σv, h, rs, rh, q⟩ => ⟨ι, σv, h, rs, rh, (Post.bind' q).imp fun vs H1 ⟨ι1, ws, h1, er, s1, rh1, rv1, q1⟩ => ?_⟩
  have hl : vs.length = n := by
    rw [← rv1.length, list_len er, ← hn]
    exact (Dns.cons he ht hs t).len.symm
  refine ⟨ι1, σv, h1, rs.mono s1, rh1, ?_⟩
  have q2 : PostE Γ ι1 h1 H1 (fun cls d H' => W cls d σ H') Q ((db.e σv h1).bind fun v h2 => g (ws ++ [v]) h2) := by
    simp only [Den.list] at q1
    cases e : db.e σv h1 with
    | ok v h2 => rw [e] at q1; simpa using q1
    | exc c p h2 => rw [e] at q1; simpa using q1
    | fail => rw [e] at q1; simpa using q1
  exact (Post.bind q2).imp fun y H2 ⟨ι2, v, h2, s2, rh2, rv2, q2⟩ => ⟨hl, rfl, call_post hg' rh2 ((rv1.mono s2).append (.one rv2)) q2⟩
/-! ### built-ins -/
theorem e_bi {id : String} {b : Bi} (hc : CallR X (.builtin id) (rL Γ (callBi b))) (hg : Gl X x) (hm : X.mg x = none) (hv : bootBuiltins x = some (.builtin id)) (hn : x ≠ "__name__") (hdb : (x == ("__debug__" : Str)) = false) (hd : Dns X Γ W (a :: as) ds) :
    PE X (.Call (.Name x p) (a :: as) [] pos) (TEo Γ W (dBi b ds).e) := by
  obtain ⟨d, ds, rfl, he, ht, hs, t⟩ : ∃ d ds', ds = d :: ds' ∧ PE X a (TEo Γ W d.e) ∧ PT X a (TTo Γ W d.t) ∧ (∀ env, starEach (a :: as) env = (false, eval a env) :: starEach as env) ∧ Dns X Γ W as ds' := by
    cases hd with
    | cons he ht hs t => exact ⟨_, _, rfl, he, ht, hs, t⟩
  exact (pe_callB hc hg hm hv (a_list (.cons he ht hs t)) hn hdb (hs _) (t.plain _)).imp fun σ H Q ⟨ι, σv, h, rs, rh, q⟩ => ⟨ι, σv, h, rs, rh, (Post.bind q).imp fun vs H1 ⟨ι1, ws, h1, s1, rh1, rv1, q1⟩ => ⟨ι1, h1, ws, rh1, rv1, Post.ofO q1⟩⟩
theorem e_biT {T : String} {b : Bi} (hc : CallR X (.type T) (rL Γ (callBi b))) (hg : Gl X x) (hm : X.mg x = none) (hv : bootBuiltins x = some (.type T)) (hn : x ≠ "__name__") (hdb : (x == ("__debug__" : Str)) = false) (hd : Dns X Γ W (a :: as) ds) :
    PE X (.Call (.Name x p) (a :: as) [] pos) (TEo Γ W (dBi b ds).e) := by
  obtain ⟨d, ds, rfl, he, ht, hs, t⟩ : ∃ d ds', ds = d :: ds' ∧ PE X a (TEo Γ W d.e) ∧ PT X a (TTo Γ W d.t) ∧ (∀ env, starEach (a :: as) env = (false, eval a env) :: starEach as env) ∧ Dns X Γ W as ds' := by
    cases hd with
    | cons he ht hs t => exact ⟨_, _, rfl, he, ht, hs, t⟩
  exact (pe_callTy hc hg hm hv (a_list (.cons he ht hs t)) hn hdb (hs _) (t.plain _)).imp fun σ H Q ⟨ι, σv, h, rs, rh, q⟩ => ⟨ι, σv, h, rs, rh, (Post.bind q).imp fun vs H1 ⟨ι1, ws, h1, s1, rh1, rv1, q1⟩ => ⟨ι1, h1, ws, rh1, rv1, Post.ofO q1⟩⟩
/-- isinstance(a, T), T a built-in class -/
theorem e_isi {y : Str} {t : Ty} {py : Pos} {d : Den} (hK : X.K = Γ.K) (hg : Gl X "isinstance") (hm : X.mg "isinstance" = none) (hgy : Gl X y) (hmy : X.mg y = none) (hv : bootBuiltins y = some (.type (tyStr t))) (hny : y ≠ "__name__") (hdy : (y == ("__debug__" : Str)) = false)
    (hst : ∀ env, starEach [a, .Name y py] env = (false, eval a env) :: starEach [.Name y py] env) (ha : PE X a (TEo Γ W d.e)) : PE X (.Call (.Name "isinstance" p) [a, .Name y py] [] pos) (TEo Γ W (dIsi d t).e) := by
  refine (pe_callB (x := "isinstance") call_isi hg hm (by decide +kernel) (pa_cons ha (pa_cons (pe_bltn hgy hmy hv (v := .ty (tyStr t)) rfl hny hdy) pa_nil (by rfl)) (hst _)) (by decide) (by decide) (hst _) (by rfl)).imp fun σ H Q ⟨ι, σv, h, rs, rh, q⟩ => ⟨ι, σv, h, rs, rh, (Post.bind q).imp fun x H1 ⟨ι1, v, h1, s1, rh1, rv1, q1⟩ => ?_⟩
  cases e : isTy h1 v t with
  | none => rw [e] at q1; exact q1.elim
  | some b =>
    rw [e] at q1
    obtain ⟨ty, h2, h3, _⟩ := tyx_of hK rh1 rv1 e
    exact ⟨x, .ty (tyStr t), ty, .type (tyStr t), b, rfl, .ty _, h2, h3, Post.now q1 rh1 (.bl _)⟩
/-! ### methods of built-ins -/
theorem attrBase (o : Expr) (n : Str) (env : Env) (whole : Sem Value) (h : ∀ id q q2, o ≠ .Call (.Name id q) [] [] q2) : attributeBase o n env whole = whole := by
  unfold attributeBase
  split
  · rename_i id q q2
    exact absurd rfl (h _ _ _)
  · rfl
theorem few_ok {as : List Expr} {ds : List Den} (hd : Dns X Γ W as ds) (hl : as.length < 30) (pos : Pos) : ((backTo pos (starEach as X.env)).all (fun x => !x.1) && (backToKw pos (keywordEach [] X.env)).all (fun x => x.1.isSome) && decide (as.length + ([] : List Keyword).length + (if ([] : List Keyword).isEmpty then 0 else 1) < 30)) = true := by
  have e1 : (backTo pos (starEach as X.env)).all (fun x => !x.1) = true := by
    rw [hd.star]
    unfold backTo
    rw [List.map_map, List.all_map]
    exact List.all_eq_true.mpr fun _ _ => rfl
  rw [e1]
  have e2 : decide (as.length + ([] : List Keyword).length + (if ([] : List Keyword).isEmpty then 0 else 1) < 30) = true := decide_eq_true (by simpa using hl)
  rw [e2]
  rfl
theorem e_append {o : Expr} {d : Den} {apos : Pos} (hK : X.K = Γ.K) (ho : PE X o (TEo Γ W d.e)) (hso : ∀ id q q2, o ≠ .Call (.Name id q) [] [] q2) (hline : (apos.endLine == pos.line) = true) (hl : (a :: as).length < 30) (hd : Dns X Γ W (a :: as) ds) :
    PE X (.Call (.Attribute o "append" apos) (a :: as) [] pos) (TEo Γ W (dBm .append d ds).e) := by
  obtain ⟨d2, ds, rfl, he, ht, hs, t⟩ : ∃ d ds', ds = d :: ds' ∧ PE X a (TEo Γ W d.e) ∧ PT X a (TTo Γ W d.t) ∧ (∀ env, starEach (a :: as) env = (false, eval a env) :: starEach as env) ∧ Dns X Γ W as ds' := by
    cases hd with
    | cons he ht hs t => exact ⟨_, _, rfl, he, ht, hs, t⟩
  refine (pe_bm PySem.F.plainAttrs_list PySem.F.slot_list_append PySem.F.type_list_append (m_append (Γ := Γ)) ho (a_list (.cons he ht hs t)) (attrBase _ _ _ _ hso) (few_ok (.cons he ht hs t) hl _) hline (hs _) (t.plain _)).imp
    fun σ H Q ⟨ι, σv, h, rs, rh, q⟩ => ⟨ι, σv, h, rs, rh, (Post.bind q).imp fun x H1 ⟨ι1, v, h1, s1, rh1, rv1, q1⟩ => ?_⟩
  cases z : bmTy .append v h1 with
  | false => rw [z] at q1; exact q1.elim
  | true =>
    rw [z] at q1
    refine ⟨?_, ι1, σv, h1, rs.mono s1, rh1, (Post.bind q1).imp fun vs H2 ⟨ι2, ws, h2, s2, rh2, rv2, q2⟩ => ⟨ι2, h2, v, ws, rh2, rv1.mono s2, rv2, Post.ofO q2⟩⟩
    cases v with
    | ref n =>
      obtain ⟨e1, hn⟩ := rv1.refV
      subst e1
      simp only [bmTy] at z
      cases eo : h1.get n with
      | none => rw [eo] at z; cases z
      | some o =>
        rw [eo] at z
        cases o with
        | lst ys =>
          obtain ⟨u, e2, ro⟩ := rh1.ob n _ eo
          cases ro with
          | lst rz => exact .inl ⟨rfl, _, SqL.of e2⟩
        | _ => cases z
    | _ => cases z
/-! ### items -/
def noSlice : Expr → Bool
  | .Slice .. => false
  | _ => true
theorem plainIx {b : Expr} (h : noSlice b = true) : PlainIx b := by
  intro o i
  unfold subscripted
  split
  · cases h
  · rename_i hf; cases hf
  · rfl
theorem e_ix {b : Expr} {da db : Den} (hK : X.K = Γ.K) (ha : PE X a (TEo Γ W da.e)) (hb : PE X b (TEo Γ W db.e)) (hs : noSlice b = true) : PE X (.Subscript a b pos) (TEo Γ W (dIx da db).e) :=
  (pe_ix (ix_item hK) ha hb (plainIx hs)).imp fun σ H Q ⟨ι, σv, h, rs, rh, q⟩ => ⟨ι, σv, h, rs, rh, (Post.bind q).imp fun x H1 ⟨ι1, v, h1, s1, rh1, rv1, q1⟩ =>
    ⟨ι1, σv, h1, rs.mono s1, rh1, (Post.bind q1).imp fun y H2 ⟨ι2, u, h2, s2, rh2, rv2, q2⟩ => ⟨ι2, h2, v, u, rh2, rv1.mono s2, rv2, Post.ofO q2⟩⟩⟩
end
end VI

end
section
/-! VH: statements, loops. Own work. -/
namespace VI
open PySem PySem.Spec PyProof.Rows L2

def PostS (Γ : Gm) (W : WX) (ι : Nat → Addr) (h : Hv) (H : Hp) (D : Ends) (r : RS) : Prop := match r with
  | .nx σv h1 => ∀ ι' σ' H', Stp Γ ι h H ι' h1 H' → RH Γ ι' h1 H' → RSl Γ ι' h1.n H' σv σ' → D.nx σ' H'
  | .rt v h1 => ∀ ι' x H', Stp Γ ι h H ι' h1 H' → RH Γ ι' h1 H' → RV Γ ι' h1.n H' v x → D.rt x H'
  | .bk σv h1 => ∀ ι' σ' H', Stp Γ ι h H ι' h1 H' → RH Γ ι' h1 H' → RSl Γ ι' h1.n H' σv σ' → D.bk σ' H'
  | .ct σv h1 => ∀ ι' σ' H', Stp Γ ι h H ι' h1 H' → RH Γ ι' h1 H' → RSl Γ ι' h1.n H' σv σ' → D.ct σ' H'
  | .exc σv c p h1 => ∀ ι' σ' cls d H', Stp Γ ι h H ι' h1 H' → RH Γ ι' h1 H' → RSl Γ ι' h1.n H' σv σ' → RX Γ ι' h1.n H' c p cls d → W cls d σ' H'
  | .fail => False
def TSo (Γ : Gm) (W : WX) (f : DenS) : TS := fun D σ H => ∃ ι σv h, RSl Γ ι h.n H σv σ ∧ RH Γ ι h H ∧ PostS Γ W ι h H D (f σv h)
section
variable {Γ : Gm} {W : WX} {ι ι' : Nat → Addr} {h h' : Hv} {H H' : Hp} {D D' : Ends} {r : RS}
theorem PostS.step (s : Stp Γ ι h H ι' h' H') (q : PostS Γ W ι h H D r) : PostS Γ W ι' h' H' D r := by
  cases r with
  | nx σv h1 => exact fun ι2 σ2 H2 s2 r2 x2 => q ι2 σ2 H2 (s.trans s2) r2 x2
  | rt v h1 => exact fun ι2 σ2 H2 s2 r2 x2 => q ι2 σ2 H2 (s.trans s2) r2 x2
  | bk σv h1 => exact fun ι2 σ2 H2 s2 r2 x2 => q ι2 σ2 H2 (s.trans s2) r2 x2
  | ct σv h1 => exact fun ι2 σ2 H2 s2 r2 x2 => q ι2 σ2 H2 (s.trans s2) r2 x2
  | exc σv c p h1 => exact fun ι2 σ2 cls d H2 s2 r2 x2 => q ι2 σ2 cls d H2 (s.trans s2) r2 x2
  | fail => exact q
theorem PostS.now {σv : Sl} {σ : L2.St} (q : PostS Γ W ι h H D (.nx σv h)) (rh : RH Γ ι h H) (rs : RSl Γ ι h.n H σv σ) : D.nx σ H := q ι σ H Stp.refl rh rs
/-- an expression, then the rest of a statement -/
theorem PostS.of {α β : Type} {rel : (Nat → Addr) → Nat → Hp → α → β → Prop} {σv : Sl} {σ : L2.St} {x : R α} {f : α → Hv → RS} (rs : RSl Γ ι h.n H σv σ) (q : PostS Γ W ι h H D (x.toS σv f)) :
    Post Γ rel ι h H (fun cls d H' => W cls d σ H') (fun y H1 => ∃ ι1 v h1, Stp Γ ι h H ι1 h1 H1 ∧ RH Γ ι1 h1 H1 ∧ rel ι1 h1.n H1 v y ∧ PostS Γ W ι1 h1 H1 D (f v h1)) x := by
  cases x with
  | ok v h1 => exact fun ι2 x H2 s2 r2 x2 => ⟨ι2, v, h1, s2, r2, x2, PostS.step s2 q⟩
  | exc c p h1 => exact fun ι2 cls d H2 s2 r2 x2 => q ι2 σ cls d H2 s2 r2 (rs.mono s2) x2
  | fail => exact q
end
section
variable {Γ : Gm} {X : Cx} {W : WX} {k : Nat} {a c e : Expr} {da dc de : Den} {pos : Pos}
theorem s_exp (he : PE X e (TEo Γ W de.e)) (hs : swapsWith e none pos.line X.env = pure false) : PS X (.Expr e pos) (TSo Γ W (sExp de)) :=
  (ps_expr he hs).imp fun D σ H ⟨ι, σv, h, rs, rh, q⟩ => ⟨ι, σv, h, rs, rh, (PostS.of rs q).imp fun x H1 ⟨ι1, v, h1, s1, rh1, rv1, q1⟩ => PostS.now q1 rh1 (rs.mono s1)⟩
theorem s_ret (he : PE X e (TEo Γ W de.e)) : PS X (.Return (some e) pos) (TSo Γ W (sRet de)) :=
  (ps_ret he).imp fun D σ H ⟨ι, σv, h, rs, rh, q⟩ => ⟨ι, σv, h, rs, rh, (PostS.of rs q).imp fun x H1 ⟨ι1, v, h1, s1, rh1, rv1, q1⟩ => q1 ι1 x H1 Stp.refl rh1 rv1⟩
theorem s_retN : PS X (.Return none pos) (TSo Γ W fun _ h => .rt .non h) := ps_retN.imp fun D σ H ⟨ι, σv, h, rs, rh, q⟩ => q ι .non H Stp.refl rh .non
theorem s_pass : PS X (.Pass pos) (TSo Γ W fun σ h => .nx σ h) := ps_pass.imp fun D σ H ⟨ι, σv, h, rs, rh, q⟩ => PostS.now q rh rs
theorem s_ife {b1 b2 : List Stmt} {f1 f2 : DenS} (hc : PT X c (TTo Γ W dc.t)) (h1 : PSs X b1 (TSo Γ W f1)) (h2 : PSs X b2 (TSo Γ W f2)) : PS X (.If c b1 b2 pos) (TSo Γ W (sIfe dc f1 f2)) :=
  (ps_if hc h1 h2).imp fun D σ H ⟨ι, σv, h, rs, rh, q⟩ => ⟨ι, σv, h, rs, rh, (PostS.of rs q).imp fun x H1 ⟨ι1, v, h1, s1, rh1, rv1, q1⟩ => by
    cases v with
    | true =>
      have e : x = true := rv1
      rw [e]
      exact ⟨ι1, σv, h1, rs.mono s1, rh1, q1⟩
    | false =>
      have e : x = false := rv1
      rw [e]
      exact ⟨ι1, σv, h1, rs.mono s1, rh1, q1⟩⟩
theorem ss_nil : PSs X [] (TSo Γ W fun σ h => .nx σ h) := pss_nil.imp fun D σ H ⟨ι, σv, h, rs, rh, q⟩ => PostS.now q rh rs
theorem PostS.seq {ι : Nat → Addr} {h : Hv} {H : Hp} {D : Ends} {r : RS} {g : DenS} (q : PostS Γ W ι h H D (r.seq g)) : PostS Γ W ι h H { D with nx := TSo Γ W g D } r := by
  cases r with
  | nx σv h1 => exact fun ι2 σ2 H2 s2 r2 x2 => ⟨ι2, σv, h1, x2, r2, PostS.step s2 q⟩
  | _ => exact q
theorem ss_cons {st : Stmt} {rest : List Stmt} {f g : DenS} (h1 : PS X st (TSo Γ W f)) (h2 : PSs X rest (TSo Γ W g)) : PSs X (st :: rest) (TSo Γ W fun σ h => (f σ h).seq g) :=
  (pss_cons h1 h2).imp fun D σ H ⟨ι, σv, h, rs, rh, q⟩ => ⟨ι, σv, h, rs, rh, PostS.seq q⟩
/-! ### targets -/
def PostT (Γ : Gm) (ι : Nat → Addr) (h : Hv) (H : Hp) (Wx : Value → Option Addr → Hp → Prop) (Q : L2.St → Hp → Prop) (r : R Sl) : Prop := match r with
  | .ok σv h1 => ∀ ι' σ' H', Stp Γ ι h H ι' h1 H' → RH Γ ι' h1 H' → RSl Γ ι' h1.n H' σv σ' → Q σ' H'
  | .exc c p h1 => PostX Γ ι h H Wx c p h1
  | .fail => False
def TGo (Γ : Gm) (W : WX) (f : VV → Sl → Hv → R Sl) : TG := fun x σ H Q => ∃ ι σv h v, RSl Γ ι h.n H σv σ ∧ RH Γ ι h H ∧ RV Γ ι h.n H v x ∧ PostT Γ ι h H (fun cls d H' => W cls d σ H') Q (f v σv h)
theorem _root_.L2.PG.imp {X : Cx} {e : Expr} {t t' : TG} (p : PG X e t) (i : ∀ x σ H Q, t' x σ H Q → t x σ H Q) : PG X e t' := ⟨fun pins s σ H v u Q I r q => p.run pins s σ H v u Q I r (i v σ H Q q)⟩
theorem g_name {i : Nat} {x : Str} {pos : Pos} (hN : X.N.Nodup) (hi : X.N[i]? = some x) (hx : Loc X.env.scope x) (hf : X.fn x = true ∨ X.env.scope.names.lookup x = some .local) : PG X (.Name x pos) (TGo Γ W (putTg (.nm i))) :=
  (pg_name hN hi hx hf).imp fun x σ H Q ⟨ι, σv, h, v, rs, rh, rv, q⟩ => q ι _ H Stp.refl rh (rs.set rv i)
/-- the names of a tuple target -/
inductive Nms (X : Cx) : List Expr → List Nat → Prop where
  | nil : Nms X [] []
  | cons {x : Str} {pos : Pos} {es : List Expr} {i : Nat} {is : List Nat} : X.N[i]? = some x → Loc X.env.scope x → (X.fn x = true ∨ X.env.scope.names.lookup x = some .local) → Nms X es is → Nms X (.Name x pos :: es) (i :: is)
theorem Nms.each : ∀ {es : List Expr} {is : List Nat}, Nms X es is → assignEach es X.env = es.map (fun t => (false, assign t X.env))
  | _, _, .nil => rfl
  | _, _, .cons _ _ _ t => by
    show (false, _) :: assignEach _ X.env = _
    rw [Nms.each t]
    rfl
def gNames : List Nat → TGs
  | [] => gNil
  | i :: is => gCons (gName i) (gNames is)
theorem gs_names (hN : X.N.Nodup) : ∀ {es : List Expr} {is : List Nat}, Nms X es is → PGs X es (gNames is)
  | _, _, .nil => pgs_nil
  | _, _, .cons hi hx hf t => pgs_cons (pg_name hN hi hx hf) (gs_names hN t) (by rfl)
theorem names_run {sz : Nat} {ι : Nat → Addr} {H : Hp} {Q : L2.St → Hp → Prop} : ∀ {is : List Nat} {vs : List VV} {xs : List V} {σv σv' : Sl} {σ : L2.St}, RVs Γ ι sz H vs xs → RSl Γ ι sz H σv σ → tgNames is vs σv = some σv' → (∀ σ', RSl Γ ι sz H σv' σ' → Q σ' H) → gNames is xs σ H Q
  | [], [], _, σv, σv', σ, .nil, rs, e, q => by
    simp only [tgNames, Option.some.injEq] at e
    subst e
    exact ⟨rfl, q σ rs⟩
  | i :: is, v :: vs, _, σv, σv', σ, .cons r t, rs, e, q => ⟨_, _, rfl, names_run t (rs.set r i) e q⟩
  | [], v :: vs, _, σv, σv', σ, _, rs, e, q => by simp [tgNames] at e
  | i :: is, [], _, σv, σv', σ, _, rs, e, q => by simp [tgNames] at e
theorem tgNames_len : ∀ {is : List Nat} {vs : List VV} {σv σv' : Sl}, tgNames is vs σv = some σv' → vs.length = is.length
  | [], [], _, _, _ => rfl
  | i :: is, v :: vs, σv, σv', e => congrArg Nat.succ (tgNames_len (is := is) (vs := vs) e)
  | [], v :: vs, _, _, e => by simp [tgNames] at e
  | i :: is, [], _, _, e => by simp [tgNames] at e
theorem g_tup {es : List Expr} {is : List Nat} {kk : Nat} {pos : Pos} (hK : X.K = Γ.K) (hc : X.calm = true) (hN : X.N.Nodup) (hn : Nms X es is) : PG X (.Tuple es kk pos) (TGo Γ W (putTg (.tup is))) := by
  have hl : (assignEach es X.env).length = es.length := by rw [hn.each, List.length_map]
  have hl2 : es.length = is.length := by
    induction hn with
    | nil => rfl
    | cons _ _ _ t ih => exact congrArg Nat.succ (ih (by rw [t.each, List.length_map]))
  have hst : (assignEach es X.env).findIdx? (·.1) = none := by
    rw [hn.each]
    exact List.findIdx?_eq_none_iff.mpr fun x hx => by
      obtain ⟨t, _, rfl⟩ := List.mem_map.mp hx
      rfl
  have p1 := pg_tup (k := kk) (pos := pos) hc (gs_names hN hn) hl hst
  have p2 := pg_unl (k := kk) (pos := pos) hc (gs_names hN hn) hl hst
  refine ⟨fun pins s σ H x u Q I r ⟨ι, σv, h, v, rs, rh, rv, q⟩ => ?_⟩
  cases es' : seqOf h v with
  | none =>
    simp only [putTg, es'] at q
    exact q.elim
  | some vs =>
    simp only [putTg, es'] at q
    cases en : tgNames is vs σv with
    | none => rw [en] at q; exact q.elim
    | some σv' =>
      rw [en] at q
      obtain ⟨p, ys, e1, hq, rvs⟩ := seqOf_ok hK rh rv es'
      have hly : ys.length = es.length := by rw [← rvs.length, tgNames_len en, hl2]
      have run := names_run (Q := Q) rvs rs en fun σ' rs' => q ι σ' H Stp.refl rh rs'
      rcases hq with hq | hq
      · exact p2.run pins s σ H x u Q I r ⟨p, ys, e1, hq, hly, run⟩
      · exact p1.run pins s σ H x u Q I r ⟨p, ys, e1, hq, hly, run⟩
theorem PostS.tg {ι : Nat → Addr} {h : Hv} {H : Hp} {D : Ends} {σv : Sl} {σ : L2.St} {x : R Sl} {f : Sl → Hv → RS} (rs : RSl Γ ι h.n H σv σ) (q : PostS Γ W ι h H D (x.toS σv f)) :
    PostT Γ ι h H (fun cls d H' => W cls d σ H') (fun σ' H1 => ∃ ι1 σv1 h1, Stp Γ ι h H ι1 h1 H1 ∧ RH Γ ι1 h1 H1 ∧ RSl Γ ι1 h1.n H1 σv1 σ' ∧ PostS Γ W ι1 h1 H1 D (f σv1 h1)) x := by
  cases x with
  | ok v h1 => exact fun ι2 x H2 s2 r2 x2 => ⟨ι2, v, h1, s2, r2, x2, PostS.step s2 q⟩
  | exc c p h1 => exact fun ι2 cls d H2 s2 r2 x2 => q ι2 σ cls d H2 s2 r2 (rs.mono s2) x2
  | fail => exact q
theorem s_asg {tg : Expr} {t : Tg} (he : PE X e (TEo Γ W de.e)) (hg : PG X tg (TGo Γ W (putTg t))) (hs : swapsWithSole [tg] e pos.line X.env = pure false) (hw : swappedStores [tg] e X.env = pure none)
    (h1 : (assignEach [tg] X.env).map (·.2) = [assign tg X.env]) : PS X (.Assign [tg] e pos) (TSo Γ W (sAsg t de)) :=
  (ps_asg he hg hs hw h1).imp fun D σ H ⟨ι, σv, h, rs, rh, q⟩ => ⟨ι, σv, h, rs, rh, (PostS.of rs q).imp fun x H1 ⟨ι1, v, h1, s1, rh1, rv1, q1⟩ => ⟨ι1, σv, h1, v, rs.mono s1, rh1, rv1, by
    have q2 := PostS.tg (rs.mono s1) q1
    cases z : putTg t v σv h1 with
    | ok σ2 h2 =>
      rw [z] at q2
      intro ι' σ' H' st rh' rs'
      obtain ⟨ι3, σ3, h3, _, rh3, rs3, q3⟩ := q2 ι' σ' H' st rh' rs'
      exact PostS.now q3 rh3 rs3
    | exc c p h2 => rw [z] at q2; exact q2
    | fail => rw [z] at q2; exact q2⟩⟩
/-! ### a op= e -/
theorem p_aug (o : BOp) : PIp X (bopOf o) (rO Γ (augop o)) := by
  intro pins s σ H x y v u Q I rx ry ⟨ι, h, a, b, rh, ra, rb, q⟩
  cases a with
  | int i =>
    cases b with
    | int j =>
      have e1 := ra.intV
      have e2 := rb.intV
      subst e1 e2
      obtain ⟨t, rfl⟩ := rx
      obtain ⟨t', rfl⟩ := ry
      cases o with
      | add => exact iadd_int ⟨.int _, H, I.tok _, ⟨_, rfl⟩, q ι _ H Stp.refl rh (.int _)⟩
      | sub => exact isub_int ⟨.int _, H, I.tok _, ⟨_, rfl⟩, q ι _ H Stp.refl rh (.int _)⟩
      | mul =>
        simp only [augop] at q
        cases z : mulOk i j with
        | false => rw [z] at q; exact q.elim
        | true =>
          rw [z] at q
          have m : IntMulOk i j := (mulOk_ok z).elim CMul.ok CMulW.ok
          exact imul_int ⟨.int _, H, I.tok _, ⟨_, rfl⟩, q ι _ H Stp.refl rh (.int _)⟩ m
      | _ => exact q.elim
    | _ => exact q.elim
  | _ => exact q.elim
theorem s_aug {i : Nat} {x : Str} {o : BOp} {pos' : Pos} (hN : X.N.Nodup) (hi : X.N[i]? = some x) (hx : Loc X.env.scope x) (he : PE X e (TEo Γ W de.e)) (hf : X.fn x = true ∨ X.env.scope.names.lookup x = some .local) :
    PS X (.AugAssign (.Name x pos') (bopOf o) e pos) (TSo Γ W (sAug i o de)) :=
  (ps_aug hN hi hx he (p_aug (Γ := Γ) o) hf).imp fun D σ H ⟨ι, σv, h, rs, rh, q⟩ => by
    have q : PostS Γ W ι h H D ((getv σv i h).toS σv fun x h1 => (de.e σv h1).toS σv fun y h2 => (R.of (augop o x y h2)).toS σv fun v h3 => .nx (setSl σv i v) h3) := q
    unfold getv at q
    cases ev : σv[i]? with
    | none => rw [ev] at q; exact q.elim
    | some ov =>
      cases ov with
      | none => rw [ev] at q; exact q.elim
      | some v =>
        rw [ev] at q
        have q : PostS Γ W ι h H D ((de.e σv h).toS σv fun y h2 => (R.of (augop o v y h2)).toS σv fun w h3 => .nx (setSl σv i w) h3) := q
        obtain ⟨x1, e1, rv⟩ := rs.2 i v ev
        refine ⟨x1, e1, ι, σv, h, rs, rh, (PostS.of rs q).imp fun y H1 ⟨ι1, u, h1, s1, rh1, rv1, q1⟩ => ⟨ι1, h1, v, u, rh1, rv.mono s1, rv1, ?_⟩⟩
        cases z : augop o v u h1 with
        | none => rw [z] at q1; exact q1.elim
        | some p =>
          rw [z] at q1
          intro ι' x' H' st rh' rv'
          exact q1 ι' _ H' st rh' (((rs.mono s1).mono st).set rv' i)
/-! ### loops -/
theorem PostS.loop {ι : Nat → Addr} {h : Hv} {H : Hp} {D : Ends} {r : RS} {F : DenS} (q : PostS Γ W ι h H D (loopR r F)) : PostS Γ W ι h H { D with nx := TSo Γ W F D, ct := TSo Γ W F D, bk := D.nx } r := by
  cases r with
  | nx σv h1 => exact fun ι2 σ2 H2 s2 r2 x2 => ⟨ι2, σv, h1, x2, r2, PostS.step s2 q⟩
  | ct σv h1 => exact fun ι2 σ2 H2 s2 r2 x2 => ⟨ι2, σv, h1, x2, r2, PostS.step s2 q⟩
  | _ => exact q
theorem s_whl {b : List Stmt} {f : DenS} (hp : PassesOwn (model X.prog X.w) X.A X.env X.xe) (hc : PT X c (TTo Γ W dc.t)) (hb : PSs X b (TSo Γ W f)) (n : Nat) : PS X (.While c b [] pos) (TSo Γ W (whlL dc f n)) :=
  (ps_while hp hc hb).imp fun D σ H q => ⟨fun m σ H => TSo Γ W (whlL dc f m) D σ H, ⟨n, q⟩, fun m σ H ⟨ι, σv, h, rs, rh, q⟩ => by
    cases m with
    | zero => exact q.elim
    | succ m =>
      refine ⟨ι, σv, h, rs, rh, (PostS.of rs q).imp fun x H1 ⟨ι1, v, h1, s1, rh1, rv1, q1⟩ => ?_⟩
      cases v with
      | false =>
        have e : x = false := rv1
        rw [e]
        exact PostS.now q1 rh1 (rs.mono s1)
      | true =>
        have e : x = true := rv1
        rw [e]
        exact ⟨TSo Γ W (whlL dc f m) D, fun σ' H' q' => ⟨m, Nat.lt_succ_self _, q'⟩, ι1, σv, h1, rs.mono s1, rh1, PostS.loop q1⟩⟩
/-- what is walked, at a state -/
def wkAt (Γ : Gm) (w : Wk) (J : It) (ι : Nat → Addr) (h : Hv) (H : Hp) : Prop := match w with
  | .fix xs => (∀ i v, xs[i]? = some v → J.go i H ∧ ∀ x H', J.yld i H x H' → Stp Γ ι h H ι h H' ∧ RH Γ ι h H' ∧ RV Γ ι h.n H' v x) ∧ ∀ i, xs.length ≤ i → J.stop i H
  | .live n len => (∀ i v, liveAt h n i = some v → J.go i H ∧ ∀ x H', J.yld i H x H' → Stp Γ ι h H ι h H' ∧ RH Γ ι h H' ∧ RV Γ ι h.n H' v x) ∧ ∀ i m, liveLen h n = some m → m ≤ i → J.stop i H
def rW (Γ : Gm) (ι : Nat → Addr) (sz : Nat) (H : Hp) (w : Wk) (J : It) : Prop := ∀ ι' h' H', Stp Γ ι ⟨sz, .nil⟩ H ι' h' H' → RH Γ ι' h' H' → wkAt Γ w J ι' h' H'
def TIo (Γ : Gm) (W : WX) (f : Sl → Hv → R Wk) : TI := fun σ H Q => ∃ ι σv h, RSl Γ ι h.n H σv σ ∧ RH Γ ι h H ∧ Post Γ (rW Γ) ι h H (fun cls d H' => W cls d σ H') Q (f σv h)
theorem rW.at {ι ι' : Nat → Addr} {h0 h' : Hv} {H H' : Hp} {w : Wk} {J : It} (r : rW Γ ι h0.n H w J) (s : Stp Γ ι h0 H ι' h' H') (rh : RH Γ ι' h' H') : wkAt Γ w J ι' h' H' := r ι' h' H' ⟨s.io, s.sz, s.tp, s.fr, s.nf, s.th⟩ rh
theorem s_for {tg iter : Expr} {t : Tg} {kk : ItK} {its : List Den} {b : List Stmt} {f : DenS} (hp : PassesOwn (model X.prog X.w) X.A X.env X.xe) (hc : X.calm = true) (hi : PI X tg iter (TIo Γ W fun σ h => (Den.list its σ h).bind fun vs h1 => .of (walk kk vs h1)))
    (hg : PG X tg (TGo Γ W (putTg t))) (hb : PSs X b (TSo Γ W f)) (hs : ∀ x, foldedSetIterable iter X.env x = pure x) : PS X (.For tg iter b [] pos) (TSo Γ W (sFor t kk its f)) := by
  refine (ps_for hp hc hi hg hb hs).imp fun D σ H ⟨ι, σv, h, rs, rh, q⟩ => ⟨ι, σv, h, rs, rh, ?_⟩
  have q1 : PostS Γ W ι h H D (((Den.list its σv h).bind fun vs h1 => .of (walk kk vs h1)).toS σv fun w h2 => match w with
      | .fix xs => forFix t f xs σv h2
      | .live n len => forLive t f n len len σv h2) := by
    have q : PostS Γ W ι h H D ((Den.list its σv h).toS σv fun vs h1 => (R.of (walk kk vs h1)).toS σv fun w h2 => match w with
      | .fix xs => forFix t f xs σv h2
      | .live n len => forLive t f n len len σv h2) := q
    cases e : Den.list its σv h with
    | ok vs h1 => rw [e] at q; exact q
    | exc c p h1 => rw [e] at q; exact q
    | fail => rw [e] at q; exact q
  refine (PostS.of (rel := rW Γ) rs q1).imp fun J H1 ⟨ι1, w, h1, s1, rh1, rw1, q2⟩ => ?_
  have rs1 := rs.mono s1
  cases w with
  | fix xs =>
    refine ⟨fun i m σ H => ∃ ι σv h, Stp Γ ι1 h1 H1 ι h H ∧ RSl Γ ι h.n H σv σ ∧ RH Γ ι h H ∧ i ≤ xs.length ∧ m = xs.length - i ∧ PostS Γ W ι h H D (forFix t f (xs.drop i) σv h), ⟨xs.length, ι1, σv, h1, Stp.refl, rs1, rh1, Nat.zero_le _, rfl, q2⟩, ?_⟩
    rintro i m σ2 H2 ⟨ι2, σv2, h2, s2, rs2, rh2, hi, rfl, q3⟩
    obtain ⟨w1, w2⟩ := rw1.at s2 rh2
    by_cases hl : i < xs.length
    · right
      have hd : xs.drop i = xs[i] :: xs.drop (i + 1) := List.drop_eq_getElem_cons hl
      rw [hd] at q3
      obtain ⟨go, yl⟩ := w1 i xs[i] (List.getElem?_eq_getElem hl)
      refine ⟨go, fun σ' H' => ∃ ι σv h, Stp Γ ι1 h1 H1 ι h H' ∧ RSl Γ ι h.n H' σv σ' ∧ RH Γ ι h H' ∧ PostS Γ W ι h H' D (forFix t f (xs.drop (i + 1)) σv h), fun σ' H' ⟨ι', σv', h', a1, a2, a3, a4⟩ => ⟨xs.length - (i + 1), by omega, ι', σv', h', a1, a2, a3, by omega, rfl, a4⟩, fun x H3 y => ?_⟩
      obtain ⟨s3, rh3, rv3⟩ := yl x H3 y
      refine ⟨ι2, σv2, h2, xs[i], rs2.mono s3, rh3, rv3, ?_⟩
      have q4 := PostS.tg (rs2.mono s3) (PostS.step s3 q3)
      have tail : ∀ ι4 σ4 H4 σv4 h4, Stp Γ ι2 h2 H3 ι4 h4 H4 → RH Γ ι4 h4 H4 → RSl Γ ι4 h4.n H4 σv4 σ4 → PostS Γ W ι4 h4 H4 D (loopR (f σv4 h4) (forFix t f (xs.drop (i + 1)))) →
          TSo Γ W f { D with nx := fun σ' H' => ∃ ι σv h, Stp Γ ι1 h1 H1 ι h H' ∧ RSl Γ ι h.n H' σv σ' ∧ RH Γ ι h H' ∧ PostS Γ W ι h H' D (forFix t f (xs.drop (i + 1)) σv h), ct := fun σ' H' => ∃ ι σv h, Stp Γ ι1 h1 H1 ι h H' ∧ RSl Γ ι h.n H' σv σ' ∧ RH Γ ι h H' ∧ PostS Γ W ι h H' D (forFix t f (xs.drop (i + 1)) σv h), bk := D.nx } σ4 H4 := by
        intro ι4 σ4 H4 σv4 h4 s4 rh4 rs4 q5
        refine ⟨ι4, σv4, h4, rs4, rh4, ?_⟩
        have s14 := (s2.trans s3).trans s4
        cases z : f σv4 h4 with
        | nx σ5 h5 =>
          rw [z] at q5
          exact fun ι6 σ6 H6 s6 r6 x6 => ⟨ι6, σ5, h5, s14.trans s6, x6, r6, PostS.step s6 q5⟩
        | ct σ5 h5 =>
          rw [z] at q5
          exact fun ι6 σ6 H6 s6 r6 x6 => ⟨ι6, σ5, h5, s14.trans s6, x6, r6, PostS.step s6 q5⟩
        | bk σ5 h5 => rw [z] at q5; exact q5
        | rt v h5 => rw [z] at q5; exact q5
        | exc σ5 c p h5 => rw [z] at q5; exact q5
        | fail => rw [z] at q5; exact q5
      cases z : putTg t xs[i] σv2 h2 with
      | ok σ5 h5 =>
        rw [z] at q4
        intro ι' σ' H' st rh' rs'
        obtain ⟨ι6, σv6, h6, s6, rh6, rs6, q6⟩ := q4 ι' σ' H' st rh' rs'
        exact tail ι6 σ' H' σv6 h6 s6 rh6 rs6 q6
      | exc c p h5 => rw [z] at q4; exact q4
      | fail => rw [z] at q4; exact q4
    · left
      have e : xs.drop i = [] := List.drop_eq_nil_of_le (by omega)
      rw [e] at q3
      exact ⟨w2 i (by omega), PostS.now q3 rh2 rs2⟩
  | live n len =>
    refine ⟨fun i m σ H => ∃ ι σv h, Stp Γ ι1 h1 H1 ι h H ∧ RSl Γ ι h.n H σv σ ∧ RH Γ ι h H ∧ m + i = len ∧ PostS Γ W ι h H D (forLive t f n len m σv h), ⟨len, ι1, σv, h1, Stp.refl, rs1, rh1, by omega, q2⟩, ?_⟩
    rintro i m σ2 H2 ⟨ι2, σv2, h2, s2, rs2, rh2, hi, q3⟩
    obtain ⟨w1, w2⟩ := rw1.at s2 rh2
    cases m with
    | zero =>
      left
      have e : i = len := by omega
      subst e
      simp only [forLive] at q3
      cases z : liveLen h2 n with
      | none => rw [z] at q3; exact q3.elim
      | some m =>
        rw [z] at q3
        simp only at q3
        cases y : Nat.ble m i with
        | false => rw [y] at q3; exact q3.elim
        | true =>
          rw [y] at q3
          exact ⟨w2 i m z (ble_le y), PostS.now q3 rh2 rs2⟩
    | succ m =>
      right
      have e : len - (m + 1) = i := by omega
      simp only [forLive, e] at q3
      cases z : liveAt h2 n i with
      | none => rw [z] at q3; exact q3.elim
      | some v =>
        rw [z] at q3
        simp only at q3
        obtain ⟨go, yl⟩ := w1 i v z
        refine ⟨go, fun σ' H' => ∃ ι σv h, Stp Γ ι1 h1 H1 ι h H' ∧ RSl Γ ι h.n H' σv σ' ∧ RH Γ ι h H' ∧ PostS Γ W ι h H' D (forLive t f n len m σv h), fun σ' H' ⟨ι', σv', h', a1, a2, a3, a4⟩ => ⟨m, by omega, ι', σv', h', a1, a2, a3, by omega, a4⟩, fun x H3 y => ?_⟩
        obtain ⟨s3, rh3, rv3⟩ := yl x H3 y
        refine ⟨ι2, σv2, h2, v, rs2.mono s3, rh3, rv3, ?_⟩
        have q4 := PostS.tg (rs2.mono s3) (PostS.step s3 q3)
        have tail : ∀ ι4 σ4 H4 σv4 h4, Stp Γ ι2 h2 H3 ι4 h4 H4 → RH Γ ι4 h4 H4 → RSl Γ ι4 h4.n H4 σv4 σ4 → PostS Γ W ι4 h4 H4 D (loopR (f σv4 h4) (forLive t f n len m)) →
            TSo Γ W f { D with nx := fun σ' H' => ∃ ι σv h, Stp Γ ι1 h1 H1 ι h H' ∧ RSl Γ ι h.n H' σv σ' ∧ RH Γ ι h H' ∧ PostS Γ W ι h H' D (forLive t f n len m σv h), ct := fun σ' H' => ∃ ι σv h, Stp Γ ι1 h1 H1 ι h H' ∧ RSl Γ ι h.n H' σv σ' ∧ RH Γ ι h H' ∧ PostS Γ W ι h H' D (forLive t f n len m σv h), bk := D.nx } σ4 H4 := by
          intro ι4 σ4 H4 σv4 h4 s4 rh4 rs4 q5
          refine ⟨ι4, σv4, h4, rs4, rh4, ?_⟩
          have s14 := (s2.trans s3).trans s4
          cases z : f σv4 h4 with
          | nx σ5 h5 =>
            rw [z] at q5
            exact fun ι6 σ6 H6 s6 r6 x6 => ⟨ι6, σ5, h5, s14.trans s6, x6, r6, PostS.step s6 q5⟩
          | ct σ5 h5 =>
            rw [z] at q5
            exact fun ι6 σ6 H6 s6 r6 x6 => ⟨ι6, σ5, h5, s14.trans s6, x6, r6, PostS.step s6 q5⟩
          | bk σ5 h5 => rw [z] at q5; exact q5
          | rt v h5 => rw [z] at q5; exact q5
          | exc σ5 c p h5 => rw [z] at q5; exact q5
          | fail => rw [z] at q5; exact q5
        cases z : putTg t v σv2 h2 with
        | ok σ5 h5 =>
          rw [z] at q4
          intro ι' σ' H' st rh' rs'
          obtain ⟨ι6, σv6, h6, s6, rh6, rs6, q6⟩ := q4 ι' σ' H' st rh' rs'
          exact tail ι6 σ' H' σv6 h6 s6 rh6 rs6 q6
        | exc c p h5 => rw [z] at q4; exact q4
        | fail => rw [z] at q4; exact q4
end
end VI

end
section
/-! VJ: what is walked, comprehensions, pairs. Own work. -/
namespace VI
open PySem PySem.Spec PyProof.Rows L2

section
variable {Γ : Gm} {X : Cx} {W : WX} {ι : Nat → Addr} {h : Hv} {H : Hp}
theorem wk_tup {xs : List VV} {a : Addr} {ys : List V} (q : SqT Γ.K H a ys) (r : RVs Γ ι h.n H xs ys) : rW Γ ι h.n H (.fix xs) (Itt Γ.K a) := by
  intro ι' h' H' s rh
  have q' := s.tp a ys q
  have r' := RVs.mono s r
  refine ⟨fun i v e => ?_, fun i hi => ⟨ys, q', by rw [← r'.length]; exact hi⟩⟩
  obtain ⟨y, e1, rv⟩ := r'.get e
  refine ⟨⟨ys, y, q', e1⟩, fun x H2 ⟨e2, e3⟩ => ?_⟩
  subst e2
  have e4 := e3 ys q'
  rw [e1] at e4
  cases e4
  exact ⟨Stp.refl, rh, rv⟩
theorem wk_live {n : Nat} (hn : n < h.n) (len : Nat) : rW Γ ι h.n H (.live n len) (Itl Γ.K (ι n)) := by
  intro ι' h' H' s rh
  have ei : ι' n = ι n := s.io n hn
  have key : ∀ o, h'.get n = some o → ∀ xs, (o = .lst xs ∨ o = .frz xs) → ∃ ys, SqL Γ.K H' (ι n) ys ∧ RVs Γ ι' h'.n H' xs ys := by
    intro o e xs ho
    obtain ⟨u, e1, ro⟩ := rh.ob n o e
    rw [ei] at e1
    rcases ho with rfl | rfl
    · cases ro with
      | lst r => exact ⟨_, SqL.of e1, r⟩
    · cases ro with
      | frz ob r => exact ⟨_, .inl (.inr ⟨ob, e1⟩), r⟩
  have look : ∀ i v, liveAt h' n i = some v → ∃ o xs, h'.get n = some o ∧ (o = .lst xs ∨ o = .frz xs) ∧ xs[i]? = some v := by
    intro i v e
    unfold liveAt at e
    cases eo : h'.get n with
    | none => rw [eo] at e; cases e
    | some o =>
      rw [eo] at e
      cases o with
      | lst xs => exact ⟨_, xs, rfl, .inl rfl, e⟩
      | frz xs => exact ⟨_, xs, rfl, .inr rfl, e⟩
      | _ => cases e
  have lookL : ∀ m, liveLen h' n = some m → ∃ o xs, h'.get n = some o ∧ (o = .lst xs ∨ o = .frz xs) ∧ xs.length = m := by
    intro m e
    unfold liveLen at e
    cases eo : h'.get n with
    | none => rw [eo] at e; cases e
    | some o =>
      rw [eo] at e
      cases o with
      | lst xs => exact ⟨_, xs, rfl, .inl rfl, Option.some.inj e⟩
      | frz xs => exact ⟨_, xs, rfl, .inr rfl, Option.some.inj e⟩
      | _ => cases e
  refine ⟨fun i v e => ?_, fun i m e hm => ?_⟩
  · obtain ⟨o, xs, eo, ho, ex⟩ := look i v e
    obtain ⟨ys, hq, r⟩ := key o eo xs ho
    obtain ⟨y, e1, rv⟩ := r.get ex
    refine ⟨⟨ys, y, hq, e1⟩, fun x H2 ⟨e2, e3⟩ => ?_⟩
    subst e2
    have e4 := e3 ys hq
    rw [e1] at e4
    cases e4
    exact ⟨Stp.refl, rh, rv⟩
  · obtain ⟨o, xs, eo, ho, el⟩ := lookL m e
    obtain ⟨ys, hq, r⟩ := key o eo xs ho
    exact ⟨ys, hq, by rw [← r.length, el]; exact hm⟩
theorem wk_str {s : Tx} (k : okT s) : rW Γ ι h.n H (.fix (s.map fun c => .str [c])) (Its (toS s)) := by
  intro ι' h' H' st rh
  refine ⟨fun i v e => ?_, fun i hi => ?_⟩
  · rw [List.getElem?_map] at e
    cases ec : s[i]? with
    | none => rw [ec] at e; cases e
    | some c =>
      rw [ec] at e
      cases e
      have hi : i < s.length := (List.getElem?_eq_some_iff.mp ec).1
      have ea : (toS s).cps[i]? = some c := by
        show s.toArray[i]? = some c
        simpa using ec
      refine ⟨by show i < s.toArray.size; simpa using hi, fun x H2 ⟨e2, c2, e3, e4⟩ => ?_⟩
      subst e2 e4
      rw [ea] at e3
      cases e3
      exact ⟨Stp.refl, rh, .str [c] fun d hd => by
        have : d = c := by simpa using hd
        subst this
        exact k _ (List.mem_of_getElem? ec)⟩
  · rw [List.length_map] at hi
    show s.toArray.size ≤ i
    simpa using hi
theorem rngL_len (lo : Int) (n : Nat) : (rngL lo n).length = n := by
  induction n generalizing lo with
  | zero => rfl
  | succ n ih => exact congrArg Nat.succ (ih (lo + 1))
theorem rngL_get {lo : Int} {n i : Nat} {v : VV} (e : (rngL lo n)[i]? = some v) : i < n ∧ v = .int (lo + i) := by
  induction n generalizing lo i with
  | zero => simp [rngL] at e
  | succ n ih =>
    cases i with
    | zero => simp [rngL] at e; exact ⟨by omega, by rw [← e]; simp⟩
    | succ i =>
      have e' : (rngL (lo + 1) n)[i]? = some v := by simpa [rngL] using e
      obtain ⟨h1, h2⟩ := ih e'
      refine ⟨by omega, ?_⟩
      rw [h2]
      congr 1
      omega
theorem wk_rng (lo : Int) (n : Nat) : rW Γ ι h.n H (.fix (rngL lo n)) (Itr lo n) := by
  intro ι' h' H' st rh
  refine ⟨fun i v e => ?_, fun i hi => ?_⟩
  · obtain ⟨h1, h2⟩ := rngL_get e
    subst h2
    refine ⟨h1, fun x H2 ⟨e2, e3⟩ => ?_⟩
    subst e2 e3
    exact ⟨Stp.refl, rh, .int _⟩
  · rw [rngL_len] at hi
    exact hi
theorem smallI_ok {j : Int} (h : smallI j = true) : -(2 ^ 62) ≤ j ∧ j < 2 ^ 62 := by
  have := blt_lt h
  constructor <;> omega
variable {a b : Expr} {da db : Den} {p pos : Pos} {tg : Expr}
theorem starOne (a : Expr) (env : Env) (h : ∀ env, starEach [a] env = (false, eval a env) :: starEach [] env) : starEach [a] env = [(false, eval a env)] := h env
theorem i_rng1 (hg : Gl X "range") (hm : X.mg "range" = none) {ds : List Den} (hd : Dns X Γ W [a] ds) : PI X tg (.Call (.Name "range" p) [a] [] pos) (TIo Γ W fun σ h => (Den.list ds σ h).bind fun vs h1 => .of (walk .rng vs h1)) := by
  have hs : starEach [a] X.env = [(false, eval a X.env)] := by
    cases hd with
    | cons _ _ hs t => exact hs _
  have pi := pi_range1 (tg := tg) (p := p) (pos := pos) hg hm (a_list hd) hs
  refine ⟨fun pins s σ H R I ⟨ι, σv, h, rs, rh, q⟩ => pi.run pins s σ H R I ⟨ι, σv, h, rs, rh, (Post.bind' q).imp fun xs H1 ⟨ι1, vs, h1, er, s1, rh1, rv1, q1⟩ => ?_⟩⟩
  have hl := list_len er
  rw [← hd.len] at hl
  match vs, rv1, hl, q1 with
  | [v], rv1, _, q1 =>
    obtain ⟨x, rfl, rx⟩ := rvs1 rv1
    have q2 : PostO Γ (rW Γ) ι1 h1 H1 R (walk .rng [v] h1) := Post.ofO q1
    cases v with
    | int j =>
      simp only [walk] at q2
      cases z : smallI j with
      | false => rw [z] at q2; exact q2.elim
      | true =>
        rw [z] at q2
        obtain ⟨l1, l2⟩ := smallI_ok z
        exact ⟨j, by rw [rx.intV], l1, l2, q2 ι1 _ H1 Stp.refl rh1 (wk_rng 0 _)⟩
    | _ => exact q2.elim
theorem i_rng2 (hg : Gl X "range") (hm : X.mg "range" = none) {ds : List Den} (hd : Dns X Γ W [a, b] ds) : PI X tg (.Call (.Name "range" p) [a, b] [] pos) (TIo Γ W fun σ h => (Den.list ds σ h).bind fun vs h1 => .of (walk .rng vs h1)) := by
  have hs2 : starEach [b] X.env = [(false, eval b X.env)] := by
    cases hd with
    | cons _ _ hs t =>
      cases t with
      | cons _ _ hs2 t2 => exact hs2 _
  have hs : starEach [a, b] X.env = [(false, eval a X.env), (false, eval b X.env)] := by
    cases hd with
    | cons _ _ hs t => rw [hs, hs2]
  have pi := pi_range2 (tg := tg) (p := p) (pos := pos) hg hm (a_list hd) hs hs2
  refine ⟨fun pins s σ H R I ⟨ι, σv, h, rs, rh, q⟩ => pi.run pins s σ H R I ⟨ι, σv, h, rs, rh, (Post.bind' q).imp fun xs H1 ⟨ι1, vs, h1, er, s1, rh1, rv1, q1⟩ => ?_⟩⟩
  have hl := list_len er
  rw [← hd.len] at hl
  match vs, rv1, hl, q1 with
  | [v, w], rv1, _, q1 =>
    obtain ⟨x, y, rfl, rx, ry⟩ := rvs2 rv1
    have q2 : PostO Γ (rW Γ) ι1 h1 H1 R (walk .rng [v, w] h1) := Post.ofO q1
    cases v with
    | int i =>
      cases w with
      | int j =>
        simp only [walk] at q2
        cases z : smallI i && smallI j with
        | false => rw [z] at q2; exact q2.elim
        | true =>
          rw [z] at q2
          obtain ⟨z1, z2⟩ := Bool.and_eq_true_iff.mp z
          obtain ⟨l1, l2⟩ := smallI_ok z1
          obtain ⟨l3, l4⟩ := smallI_ok z2
          exact ⟨i, j, by rw [rx.intV, ry.intV], ⟨l1, l2, l3, l4⟩, q2 ι1 _ H1 Stp.refl rh1 (wk_rng i _)⟩
      | _ => exact q2.elim
    | _ => exact q2.elim
/-- a list, a tuple, a text -/
theorem i_val (hK : X.K = Γ.K) (he : PE X a (TEo Γ W da.e)) : PI X tg a (TIo Γ W fun σ h => (Den.list [da] σ h).bind fun vs h1 => .of (walk .val vs h1)) := by
  refine ⟨fun pins s σ H R I ⟨ι, σv, h, rs, rh, q⟩ => ?_⟩
  have q0 : Post Γ (rW Γ) ι h H (fun cls d H' => W cls d σ H') R ((da.e σv h).bind fun v h1 => .of (walk .val [v] h1)) := by
    have q : Post Γ (rW Γ) ι h H (fun cls d H' => W cls d σ H') R ((Den.list [da] σv h).bind fun vs h1 => .of (walk .val vs h1)) := q
    simp only [Den.list] at q
    cases e : da.e σv h with
    | ok v h2 => rw [e] at q; exact q
    | exc c p h2 => rw [e] at q; exact q
    | fail => rw [e] at q; exact q
  refine thn (he.run pins s σ H _ I ⟨ι, σv, h, rs, rh, Post.bind q0⟩) fun u s1 ⟨x, H1, I1, r1, ι1, v, h1, s01, rh1, rv1, q1⟩ => ?_
  have q2 : PostO Γ (rW Γ) ι1 h1 H1 R (walk .val [v] h1) := Post.ofO q1
  cases v with
  | tup xs =>
    obtain ⟨p, ys, e1, hq, rs⟩ := rv1.tupV
    subst e1
    obtain rfl : u = Value.ref p := r1
    have q := q2 ι1 (Itt Γ.K p) H1 Stp.refl rh1 (wk_tup hq rs)
    rw [← hK] at hq q
    obtain ⟨its, rv, pl, hz⟩ := I1.tuple hq
    refine wpAny_pyIter_tuple (show s1.heap.IsTuple p its.toArray from pl) ?_
    refine ⟨s1.heap.objs.size, [s1.heap.objs.size], _, _, H1, rfl, I1.kept (t' := s1.toks) fun b o e => Heap.get?_push_of_some _ e, turn_tuple p _, ⟨_, Heap.get?_push_size _ rfl, rfl, rfl⟩, fun b hb => ?_, q⟩
    have e : b = s1.heap.objs.size := by simpa using hb
    subst e
    exact I1.fpOk (Nat.le_refl _) (I1.hok.fresh (Nat.le_refl _))
  | str t =>
    obtain ⟨e1, k1⟩ := rv1.strV
    subst e1
    obtain ⟨tk, rfl⟩ := r1
    have q := q2 ι1 (Its (toS t)) H1 Stp.refl rh1 (wk_str k1)
    cases ha : (toS t).cps.all (· < 128)
    · exact wpAny_pyIter_wide ha (pi_one (tk := s1.toks) I1 _ (turn_str _ (toS t) tk "str_iterator" (.inr rfl)) ⟨_, Heap.get?_push_size _ rfl, rfl, rfl⟩ q)
    · exact wpAny_pyIter_ascii ha (pi_one (tk := s1.toks) I1 _ (turn_str _ (toS t) tk "str_ascii_iterator" (.inl rfl)) ⟨_, Heap.get?_push_size _ rfl, rfl, rfl⟩ q)
  | ref n =>
    obtain ⟨e1, hn⟩ := rv1.refV
    subst e1
    obtain rfl : u = Value.ref (ι1 n) := r1
    have fin : ∀ len, (∃ ys, SqL X.K H1 (ι1 n) ys) → PostO Γ (rW Γ) ι1 h1 H1 R (some (.live n len, h1)) → wpAny (model X.prog X.w) X.A (pyIter (.ref (ι1 n))) (PIE X pins σ tg R) X.xe s1 := by
      intro len ⟨ys, hq⟩ q2
      have q := q2 ι1 (Itl Γ.K (ι1 n)) H1 Stp.refl rh1 (wk_live hn len)
      rw [← hK] at q
      obtain ⟨its, rv, pl, hz⟩ := I1.list hq
      refine wpAny_pyIter_list pl.isList ?_
      refine ⟨s1.heap.objs.size, [s1.heap.objs.size], _, _, H1, rfl, I1.kept (t' := s1.toks) fun b o e => Heap.get?_push_of_some _ e, turn_list (ι1 n) _, ⟨_, Heap.get?_push_size _ rfl, rfl, rfl⟩, fun b hb => ?_, q⟩
      have e : b = s1.heap.objs.size := by simpa using hb
      subst e
      exact I1.fpOk (Nat.le_refl _) (I1.hok.fresh (Nat.le_refl _))
    simp only [walk] at q2
    cases eo : h1.get n with
    | none => rw [eo] at q2; exact q2.elim
    | some o =>
      rw [eo] at q2
      obtain ⟨u, e2, ro⟩ := rh1.ob n _ eo
      cases ro with
      | lst r => exact fin _ ⟨_, SqL.of e2⟩ q2
      | frz ob r => exact fin _ ⟨_, .inl (.inr ⟨ob, e2⟩)⟩ q2
  | _ => exact q2.elim
end
end VI

end
section
/-! VK: comprehensions; pairs. Own work. -/
namespace VI
open PySem PySem.Spec PyProof.Rows L2

abbrev WF : WX := fun _ _ _ _ => False
/-- a comprehension's block -/
abbrev Blk (X : Cx) (scope : Scope) (s : Shared) (H : Hp) (C : Addr) (cl : List (Str × Addr)) (fp : List Addr) : Cx := X.blk s H scope (compEnvC scope cl C X.env) fp
theorem takes_false {X : Cx} : L2N.Takes X WF := fun u s' x => by
  obtain ⟨_, _, _, _, _, _, _, _, _, _, _, _, _, _, _, _, w⟩ := x
  exact w.elim
/-- a clause's tests -/
def cndT : List Den → Sl → Hv → R Bool := andT
section
variable {Γ : Gm} {X : Cx} {W : WX}
theorem p_nil : PTs X [] (TTo Γ W (andT [])) := ⟨fun pins s σ H Q I ⟨ι, σv, h, rs, rh, q⟩ => pts_nil.run pins s σ H Q I (Post.now q rh rfl)⟩
theorem p_one {c : Expr} {d : Den} (hc : PT X c (TTo Γ W d.t)) : PTs X [c] (TTo Γ W (andT [d])) := ⟨fun pins s σ H Q I ⟨ι, σv, h, rs, rh, q⟩ => (pts_one hc).run pins s σ H Q I ⟨ι, σv, h, rs, rh, Post.eta (fun b h => by cases b <;> rfl) q⟩⟩
theorem noX_ok {α : Type} {r : R α} {a : α} {h : Hv} (e : r.noX = .ok a h) : r = .ok a h := by
  cases r with
  | ok a h => exact e
  | exc c p h => cases e
  | fail => cases e
theorem noX_post {α β α2 β2 : Type} {rel : (Nat → Addr) → Nat → Hp → α2 → β2 → Prop} {ι : Nat → Addr} {h : Hv} {H : Hp} {Wx : Value → Option Addr → Hp → Prop} {Q : β2 → Hp → Prop} {r : R α} {f : α → Hv → R α2} (q : Post Γ rel ι h H Wx Q (r.noX.bind f)) :
    ∃ a h1, r = .ok a h1 ∧ Post Γ rel ι h H Wx Q (f a h1) := by
  cases r with
  | ok a h1 => exact ⟨a, h1, rfl, q⟩
  | exc c p h1 => exact q.elim
  | fail => exact q.elim
theorem wipe1_set {σ : L2.St} {i : Nat} {x : V} : L2.wipe ((L2.wipe σ [i]).set i (some x)) [i] = L2.wipe σ [i] := by
  show ((σ.set i none).set i (some x)).set i none = σ.set i none
  rw [List.set_set, List.set_set]
/-- one turn of a comprehension that goes well -/
theorem lc_turn {e : Den} {c : List Den} {i : Nat} {σ : Sl} {x : VV} {acc ys : List VV} {h hE : Hv} {k : List VV → Hv → R (List VV)}
    (q : ((putTg (.nm i) x σ h).bind fun σ1 h1 => (andT c σ1 h1).bind fun b h2 => match b with
      | true => (e.e σ1 h2).bind fun v h3 => match Nat.blt acc.length LEN with
        | true => k (acc ++ [v]) h3
        | false => .fail
      | false => k acc h2) = .ok ys hE) :
    ∃ b h2, andT c (setSl σ i x) h = .ok b h2 ∧ ((b = true ∧ acc.length < LEN ∧ ∃ v h3, e.e (setSl σ i x) h2 = .ok v h3 ∧ k (acc ++ [v]) h3 = .ok ys hE) ∨ (b = false ∧ k acc h2 = .ok ys hE)) := by
  simp only [putTg, R.bind_ok] at q
  cases e1 : andT c (setSl σ i x) h with
  | ok b h2 =>
    rw [e1] at q
    simp only [R.bind_ok] at q
    refine ⟨b, h2, rfl, ?_⟩
    cases b with
    | true =>
      left
      simp only at q
      cases e2 : e.e (setSl σ i x) h2 with
      | ok v h3 =>
        rw [e2] at q
        simp only [R.bind_ok] at q
        cases z : Nat.blt acc.length LEN with
        | true =>
          rw [z] at q
          exact ⟨rfl, blt_lt z, v, h3, rfl, q⟩
        | false => rw [z] at q; cases q
      | exc c p h3 => rw [e2] at q; cases q
      | fail => rw [e2] at q; cases q
    | false => exact .inr ⟨rfl, q⟩
  | exc c p h2 => rw [e1] at q; cases q
  | fail => rw [e1] at q; cases q
theorem e_lc {elt tg iter : Expr} {ifs : List Expr} {scope : Scope} {i : Nat} {y : Str} {pos : Pos} {de : Den} {cs : List Den} {kk : ItK} {its : List Den} (hc : X.calm = true) (hN : X.N.Nodup)
    (hi : PI X tg iter (TIo Γ W fun σ h => (Den.list its σ h).bind fun vs h1 => .of (walk kk vs h1))) (ok : BlkOk X.N X.env.scope scope [(y, i)])
    (hg : ∀ s H C cl fp, PG (Blk X scope s H C cl fp) tg (gName i)) (ht : ∀ s H C cl fp, PTs (Blk X scope s H C cl fp) ifs (TTo Γ WF (andT cs)))
    (he : ∀ s H C cl fp, PE (Blk X scope s H C cl fp) elt (TEo Γ WF de.e)) (hs : ∀ x, foldedSetIterable iter X.env x = pure x) :
    ∀ σ H Q, TEo Γ W (dLc de [i] kk its cs).e σ H Q → tLc (TIo Γ W fun σ h => (Den.list its σ h).bind fun vs h1 => .of (walk kk vs h1)) (gName i) (TTo Γ WF (andT cs)) (TEo Γ WF de.e) [i] σ H Q := by
  rintro σ H Q ⟨ι, σv, h, rs, rh, q⟩
  have q1 : PostE Γ ι h H (fun cls d H' => W cls d σ H') Q (((Den.list its σv h).bind fun vs h1 => R.of (walk kk vs h1)).bind fun w h2 => (match w with
      | .fix xs => (lcFix de cs (.nm i) (wipes σv [i]) xs [] h2).noX
      | .live n len => (lcLive de cs (.nm i) (wipes σv [i]) n len len [] h2).noX).bind fun ys h3 => .ok (.ref h3.n) (h3.new (.lst ys))) := by
    have q : PostE Γ ι h H (fun cls d H' => W cls d σ H') Q ((Den.list its σv h).bind fun vs h1 => (R.of (walk kk vs h1)).bind fun w h2 => (match w with
      | .fix xs => (lcFix de cs (.nm i) (wipes σv [i]) xs [] h2).noX
      | .live n len => (lcLive de cs (.nm i) (wipes σv [i]) n len len [] h2).noX).bind fun ys h3 => .ok (.ref h3.n) (h3.new (.lst ys))) := q
    cases e : Den.list its σv h with
    | ok vs h1 => rw [e] at q; exact q
    | exc c p h1 => rw [e] at q; exact q
    | fail => rw [e] at q; exact q
  refine ⟨ι, σv, h, rs, rh, (Post.bind (rel := rW Γ) q1).imp fun J H1 ⟨ι1, w, h1, s1, rh1, rw1, q2⟩ => ?_⟩
  intro D hD
  have rs1 := (rs.mono s1).wipe [i]
  have sD : Stp Γ ι1 h1 H1 ι1 h1 (upd H1 D (.lst [])) := Stp.side hD
  have rhD := rh1.side (u := .lst []) hD
  have nD : ∀ n, n < h1.n → ι1 n ≠ D := fun n hn z => by
    obtain ⟨o, eo⟩ := rh1.dom n hn
    obtain ⟨u, e1, _⟩ := rh1.ob n o eo
    rw [z, hD] at e1
    cases e1
  -- the state between two turns
  let Inv1 : (Nat → Addr) → Hv → List VV → Hp → Prop := fun ι h accV H => ∃ acc, Stp Γ ι1 h1 H1 ι h H ∧ RH Γ ι h H ∧ H D = some (.lst acc) ∧ RVs Γ ι h.n H accV acc ∧ ∀ n, n < h.n → ι n ≠ D
  have start : Inv1 ι1 h1 [] (upd H1 D (.lst [])) := ⟨[], sD, rhD, upd_same, .nil, nD⟩
  -- the end
  have fin : ∀ {ι h accV H}, Inv1 ι h accV H → PostE Γ ι1 h1 H1 (fun cls d H' => W cls d σ H') Q (.ok (.ref h.n) (h.new (.lst accV))) → Q (.ref D) H := by
    rintro ι h accV H ⟨acc, st, rh, eD, rv, nd⟩ q
    have rn := RV.ref (Γ := Γ) (ι := ext ι h.n D) (sz := (h.new (.lst accV)).n) (H := H) h.n (Nat.lt_succ_self _)
    rw [ext_same] at rn
    exact q _ (.ref D) H (Stp.adopt nd hD st) (rh.adopt nd eD (.lst rv)) rn
  -- a turn's rest, from the item on
  have turn : ∀ {ι h accV H H3 x v ys hE} {k : List VV → Hv → R (List VV)} {Nx : Hp → Prop}, Inv1 ι h accV H → Stp Γ ι h H ι h H3 → RH Γ ι h H3 → RV Γ ι h.n H3 v x →
      ((putTg (.nm i) v (wipes σv [i]) h).bind fun σ1 h1 => (andT cs σ1 h1).bind fun b h2 => match b with
        | true => (de.e σ1 h2).bind fun v h3 => match Nat.blt accV.length LEN with
          | true => k (accV ++ [v]) h3
          | false => .fail
        | false => k accV h2) = .ok ys hE → (∀ ι h acc H, Inv1 ι h acc H → k acc h = .ok ys hE → Nx H) →
      gName i x (L2.wipe σ [i]) H3 fun σ2 H2 => L2.wipe σ2 [i] = L2.wipe σ [i] ∧ TTo Γ WF (andT cs) σ2 H2 fun b H3 => if b = true then TEo Γ WF de.e σ2 H3 fun y H4 => ∃ acc, H4 D = some (.lst acc) ∧ acc.length < sizeLine ∧ Nx (upd H4 D (.lst (acc ++ [y]))) else Nx H3 := by
    rintro ι h accV H H3 x v ys hE k Nx ⟨acc, st, rh, eD, rv, nd⟩ s3 rh3 rv3 qe hNx
    refine ⟨wipe1_set, ?_⟩
    obtain ⟨b, h2, e1, alt⟩ := lc_turn qe
    have rs3 : RSl Γ ι h.n H3 (setSl (wipes σv [i]) i v) ((L2.wipe σ [i]).set i (some x)) := ((rs1.mono st).mono s3).set rv3 i
    have eD3 : H3 D = some (.lst acc) := s3.fr D _ eD nd
    refine ⟨ι, _, h, rs3, rh3, ?_⟩
    rw [e1]
    intro ι4 b' H4 s4 rh4 eb
    have eb : b' = b := eb
    have eD4 : H4 D = some (.lst acc) := s4.fr D _ eD3 nd
    have nd4 : ∀ n, n < h2.n → ι4 n ≠ D := fun n hn z => by
      by_cases hl : n < h.n
      · rw [s4.io n hl] at z
        exact nd n hl z
      · have := s4.nf n (by omega) hn
        rw [z, eD3] at this
        cases this
    have st4 := (st.trans s3).trans s4
    rcases alt with ⟨rfl, hl, w, h3, e2, e3⟩ | ⟨rfl, e3⟩
    · rw [eb, if_pos rfl]
      refine ⟨ι4, _, h2, rs3.mono s4, rh4, ?_⟩
      rw [e2]
      intro ι5 y H5 s5 rh5 rv5
      have eD5 : H5 D = some (.lst acc) := s5.fr D _ eD4 nd4
      have nd5 : ∀ n, n < h3.n → ι5 n ≠ D := fun n hn z => by
        by_cases hl : n < h2.n
        · rw [s5.io n hl] at z
          exact nd4 n hl z
        · have := s5.nf n (by omega) hn
          rw [z, eD4] at this
          cases this
      have ra := (((rv.mono s3).mono s4).mono s5).append (.one rv5)
      have nt : NoT (HO.lst acc) := ⟨fun _ e => (by cases e), fun _ _ e => (by cases e)⟩
      -- the new list grows: it is not one of ours yet
      have sU : Stp Γ ι5 h3 H5 ι5 h3 H5 := Stp.refl
      refine ⟨acc, eD5, by rw [← LEN_eq, ← rv.length]; exact hl, hNx ι5 h3 (accV ++ [w]) _ ⟨acc ++ [y], ?_, ?_, upd_same, ?_, nd5⟩ e3⟩
      · have s15 := st4.trans s5
        refine ⟨s15.io, s15.sz, fun a ys q => SqT.upd_old eD5 nt (s15.tp a ys q), fun a u e hn => ?_, s15.nf, fun a u e => ?_⟩
        · rw [upd_ne (fun z => by rw [z, hD] at e; cases e)]
          exact s15.fr a u e hn
        · obtain ⟨u', e'⟩ := s15.th a u e
          by_cases z : a = D
          · exact ⟨_, by rw [z, upd_same]⟩
          · exact ⟨u', by rw [upd_ne z]; exact e'⟩
      · refine ⟨fun n o e => ?_, rh5.inj, rh5.dom⟩
        obtain ⟨u, e1, e2⟩ := rh5.ob n o e
        refine ⟨u, by rw [upd_ne (nd5 n (Hv.get_lt e))]; exact e1, ?_⟩
        cases e2 with
        | lst r => exact .lst (RVs.tups (fun a ys q => SqT.upd_old eD5 nt q) r)
        | frz ob r => exact .frz ob (RVs.tups (fun a ys q => SqT.upd_old eD5 nt q) r)
      · exact RVs.tups (fun a ys q => SqT.upd_old eD5 nt q) ra
    · rw [eb, if_neg (by decide)]
      exact hNx ι4 h2 accV H4 ⟨acc, st4, rh4, eD4, (rv.mono s3).mono s4, nd4⟩ e3
  cases w with
  | fix xs =>
    obtain ⟨ys, hE, er, q3⟩ := noX_post (β := Unit) q2
    refine ⟨fun j m H => ∃ ι h accV, Inv1 ι h accV H ∧ j ≤ xs.length ∧ m = xs.length - j ∧ lcFix de cs (.nm i) (wipes σv [i]) (xs.drop j) accV h = .ok ys hE, ⟨xs.length, ι1, h1, [], start, Nat.zero_le _, rfl, er⟩, ?_⟩
    rintro j m H2 ⟨ι2, h2, accV, inv, hj, rfl, er2⟩
    have inv' := inv
    obtain ⟨acc, st, rh2, eD, rv, nd⟩ := inv'
    obtain ⟨w1, w2⟩ := rw1.at st rh2
    by_cases hl : j < xs.length
    · right
      have hd : xs.drop j = xs[j] :: xs.drop (j + 1) := List.drop_eq_getElem_cons hl
      rw [hd] at er2
      obtain ⟨go, yl⟩ := w1 j xs[j] (List.getElem?_eq_getElem hl)
      refine ⟨go, fun H => ∃ ι h accV, Inv1 ι h accV H ∧ lcFix de cs (.nm i) (wipes σv [i]) (xs.drop (j + 1)) accV h = .ok ys hE, fun H' ⟨ι', h', accV', a1, a2⟩ => ⟨xs.length - (j + 1), by omega, ι', h', accV', a1, by omega, rfl, a2⟩, fun x H3 y => ?_⟩
      obtain ⟨s3, rh3, rv3⟩ := yl x H3 y
      exact turn inv s3 rh3 rv3 er2 fun ι h acc H i e => ⟨ι, h, acc, i, e⟩
    · left
      have e : xs.drop j = [] := List.drop_eq_nil_of_le (by omega)
      rw [e] at er2
      cases er2
      exact ⟨w2 j (by omega), fin inv q3⟩
  | live n len =>
    obtain ⟨ys, hE, er, q3⟩ := noX_post (β := Unit) q2
    refine ⟨fun j m H => ∃ ι h accV, Inv1 ι h accV H ∧ m + j = len ∧ lcLive de cs (.nm i) (wipes σv [i]) n len m accV h = .ok ys hE, ⟨len, ι1, h1, [], start, by omega, er⟩, ?_⟩
    rintro j m H2 ⟨ι2, h2, accV, inv, hj, er2⟩
    have inv' := inv
    obtain ⟨acc, st, rh2, eD, rv, nd⟩ := inv'
    obtain ⟨w1, w2⟩ := rw1.at st rh2
    cases m with
    | zero =>
      left
      have e : j = len := by omega
      subst e
      simp only [lcLive] at er2
      cases z : liveLen h2 n with
      | none => rw [z] at er2; cases er2
      | some m =>
        rw [z] at er2
        simp only at er2
        cases y : Nat.ble m j with
        | false => rw [y] at er2; cases er2
        | true =>
          rw [y] at er2
          cases er2
          exact ⟨w2 j m z (ble_le y), fin inv q3⟩
    | succ m =>
      right
      have e : len - (m + 1) = j := by omega
      simp only [lcLive, e] at er2
      cases z : liveAt h2 n j with
      | none => rw [z] at er2; cases er2
      | some v =>
        rw [z] at er2
        obtain ⟨go, yl⟩ := w1 j v z
        refine ⟨go, fun H => ∃ ι h accV, Inv1 ι h accV H ∧ lcLive de cs (.nm i) (wipes σv [i]) n len m accV h = .ok ys hE, fun H' ⟨ι', h', accV', a1, a2⟩ => ⟨m, by omega, ι', h', accV', a1, by omega, a2⟩, fun x H3 y => ?_⟩
        obtain ⟨s3, rh3, rv3⟩ := yl x H3 y
        exact turn inv s3 rh3 rv3 er2 fun ι h acc H i e => ⟨ι, h, acc, i, e⟩
end
end VI

end
section
/-! VL: a tree of ours and the text of a def: matching; expressions that match. Own work. -/
namespace VI
open PySem PySem.Spec PyProof.Rows L2

/-- what is known of the program's names -/
structure Tb where
  glo : List (Str × VV)
  fns : List (Str × Nat)
  dfl : List (Nat × List VV)
  kws : List (Nat × Str)
  free : List Str
def seqS (x y : Str) : Bool := decide (x = y)
theorem seqS_eq {x y : Str} (h : seqS x y = true) : x = y := of_decide_eq_true h
def isVis (sc : Scope) (x : Str) : Bool := match sc.names.lookup x with
  | some .local => true
  | some .cell => true
  | some .free => true
  | _ => false
def isLoc (sc : Scope) (x : Str) : Bool := match sc.names.lookup x with
  | some .local => true
  | some .cell => true
  | _ => false
def isLcl (sc : Scope) (x : Str) : Bool := match sc.names.lookup x with
  | some .local => true
  | _ => false
def isGlb (sc : Scope) (x : Str) : Bool := match sc.names.lookup x with
  | some .globalImplicit => true
  | _ => false
theorem isVis_ok {sc : Scope} {x : Str} (h : isVis sc x = true) : Vis sc x := by
  unfold isVis at h
  unfold Vis
  split at h <;> first | (rename_i e; exact .inl e) | (rename_i e; exact .inr (.inl e)) | (rename_i e; exact .inr (.inr e)) | cases h
theorem isLoc_ok {sc : Scope} {x : Str} (h : isLoc sc x = true) : L2.Loc sc x := by
  unfold isLoc at h
  unfold L2.Loc
  split at h <;> first | (rename_i e; exact .inl e) | (rename_i e; exact .inr e) | cases h
theorem isLcl_ok {sc : Scope} {x : Str} (h : isLcl sc x = true) : sc.names.lookup x = some .local := by
  unfold isLcl at h
  split at h <;> first | (rename_i e; exact e) | cases h
theorem isGlb_ok {sc : Scope} {x : Str} (h : isGlb sc x = true) : sc.names.lookup x = some .globalImplicit := by
  unfold isGlb at h
  split at h <;> first | (rename_i e; exact e) | cases h
def nDbg (x : Str) : Bool := !(x == ("__debug__" : Str))
theorem nDbg_ok {x : Str} (h : nDbg x = true) : (x == ("__debug__" : Str)) = false := by
  unfold nDbg at h
  cases e : (x == ("__debug__" : Str)) with
  | false => rfl
  | true => rw [e] at h; cases h
def nCd (x : Str) : Bool := !(x == ("__classdict__" : Str))
theorem nCd_ok {x : Str} (h : nCd x = true) : (x == ("__classdict__" : Str)) = false := by
  unfold nCd at h
  cases e : (x == ("__classdict__" : Str)) with
  | false => rfl
  | true => rw [e] at h; cases h
def slotIs (N : List Str) (i : Nat) (x : Str) : Bool := match N[i]? with
  | some y => seqS y x
  | none => false
theorem slotIs_ok {N : List Str} {i : Nat} {x : Str} (h : slotIs N i x = true) : N[i]? = some x := by
  unfold slotIs at h
  cases e : N[i]? with
  | none => rw [e] at h; cases h
  | some y => rw [e] at h; rw [seqS_eq h]
def opEq (o : BOp) (p : Operator) : Bool := match o, p with
  | .add, .Add => true
  | .sub, .Sub => true
  | .mul, .Mult => true
  | .fdiv, .FloorDiv => true
  | .mod, .Mod => true
  | .pow, .Pow => true
  | _, _ => false
theorem opEq_ok {o : BOp} {p : Operator} (h : opEq o p = true) : p = bopOf o := by
  cases o <;> cases p <;> first | rfl | cases h
def coEq (o : COp) (p : CmpOp) : Bool := match o, p with
  | .eq, .Eq => true
  | .ne, .NotEq => true
  | .lt, .Lt => true
  | .le, .LtE => true
  | .gt, .Gt => true
  | .ge, .GtE => true
  | .is_, .Is => true
  | .isn, .IsNot => true
  | .in_, .In => true
  | .nin, .NotIn => true
  | _, _ => false
theorem coEq_ok {o : COp} {p : CmpOp} (h : coEq o p = true) : p = copOf o := by
  cases o <;> cases p <;> first | rfl | cases h
def noSet : Expr → Bool
  | .Set .. => false
  | _ => true
theorem noSet_ok {b : Expr} (h : noSet b = true) (op : CmpOp) : behindInMarks op b = false := by
  cases b <;> first | rfl | cases h
def noStar : Expr → Bool
  | .Starred .. => false
  | _ => true
theorem noStar_ok {a : Expr} (h : noStar a = true) (as : List Expr) (env : Env) : starEach (a :: as) env = (false, eval a env) :: starEach as env := by
  cases a <;> first | rfl | cases h
def noSup : Expr → Bool
  | .Call (.Name _ _) [] [] _ => false
  | _ => true
theorem noSup_ok {o : Expr} (h : noSup o = true) : ∀ id q q2, o ≠ .Call (.Name id q) [] [] q2 := by
  rintro id q q2 rfl
  cases h
def fnNm (T : Tb) (f : Nat) : Option Str := (T.fns[f]?).map (·.1)
def fnAr (T : Tb) (f : Nat) : Nat := match T.fns[f]? with
  | some p => p.2
  | none => 0
def biNm : Bi → Str
  | .len => "len"
  | .abs => "abs"
  | .max2 => "max"
  | .max3 => "max"
  | .min2 => "min"
  | .int_ => "int"
  | .divmod => "divmod"
def isFree (T : Tb) (x : Str) : Bool := T.free.any fun y => seqS y x
def tyNm (t : Ty) : Str := Str.ofString (tyStr t)
def conEq (v : VV) (c : Const) : Bool := match v, c with
  | .non, .none => true
  | .bl b, .bool d => b == d
  | .int i, .int j => decide (i = j)
  | .str s, .str x => seqS x (toS s) && s.all fun c => Nat.blt c 0x110000
  | _, _ => false
def tyOk : Ty → Bool
  | .cls _ => false
  | _ => true
def small1000 (n : Nat) : Bool := Nat.ble n 1000
def matchL (f : Ex → Expr → Bool) : List Ex → List Expr → Bool
  | [], [] => true
  | x :: xs, e :: es => noStar e && (f x e && matchL f xs es)
  | _, _ => false
def isNm1 (is : List Nat) : Bool := match is with
  | [_] => true
  | _ => false
/-- what is walked -/
def matchWf (T : Tb) (sc : Scope) (f : Ex → Expr → Bool) (k : ItK) (it : List Ex) (iter : Expr) : Bool := match k with
  | .rng => (match iter with
    | .Call (.Name x _) as [] _ => (seqS x "range" && isFree T "range") && (isGlb sc x && ((Nat.beq as.length 1 || Nat.beq as.length 2) && matchL f it as))
    | _ => false)
  | .val => (match it with
    | [d] => noSet iter && f d iter
    | _ => false)
/-- a tree of ours says what an expression says -/
def matchE (T : Tb) (N : List Str) : Nat → Scope → Ex → Expr → Bool
  | 0, _, _, _ => false
  | m + 1, sc, ir, e => match ir with
    | .con v => match e with
      | .Constant c _ _ => conEq v c
      | _ => false
    | .var i => match e with
      | .Name x _ => slotIs N i x && (isVis sc x && (nDbg x && nCd x))
      | _ => false
    | .glo g => match e with
      | .Name x _ => (match T.glo[g]? with
        | some p => seqS p.1 x
        | none => false) && (isGlb sc x && nDbg x)
      | _ => false
    | .bin o a b => match e with
      | .BinOp a' o' b' _ => opEq o o' && (matchE T N m sc a a' && matchE T N m sc b b')
      | _ => false
    | .neg a => match e with
      | .UnaryOp .USub a' _ => matchE T N m sc a a'
      | _ => false
    | .nt a => match e with
      | .UnaryOp .Not a' _ => matchE T N m sc a a'
      | _ => false
    | .and_ es => match e with
      | .BoolOp .And es' _ => !es'.isEmpty && matchL (matchE T N m sc) es es'
      | _ => false
    | .or_ es => match e with
      | .BoolOp .Or es' _ => !es'.isEmpty && matchL (matchE T N m sc) es es'
      | _ => false
    | .cmp o a b => match e with
      | .Compare a' [o'] [b'] _ => coEq o o' && (noSet b' && (matchE T N m sc a a' && matchE T N m sc b b'))
      | _ => false
    | .chn o p a b c => match e with
      | .Compare a' [o', p'] [b', c'] _ => (coEq o o' && coEq p p') && (noSet c' && (matchE T N m sc a a' && (matchE T N m sc b b' && matchE T N m sc c c')))
      | _ => false
    | .ife c a b => match e with
      | .IfExp c' a' b' _ => matchE T N m sc c c' && (matchE T N m sc a a' && matchE T N m sc b b')
      | _ => false
    | .tup es => match e with
      | .Tuple es' _ _ => small1000 es'.length && matchL (matchE T N m sc) es es'
      | _ => false
    | .lst es => match e with
      | .List es' _ => small1000 es'.length && matchL (matchE T N m sc) es es'
      | _ => false
    | .call f es => match e with
      | .Call (.Name x _) es' [] _ => (match fnNm T f with
        | some y => seqS y x
        | none => false) && (isGlb sc x && (nDbg x && ((T.dfl.lookup f).isNone && (!es'.isEmpty && matchL (matchE T N m sc) es es'))))
      | _ => false
    | .callk f es ks vs => match e with
      | .Call (.Name x _) es' kws _ => (match fnNm T f with
        | some y => seqS y x
        | none => false) && (isGlb sc x && (nDbg x && (!es'.isEmpty && (matchL (matchE T N m sc) es es' && (match kws with
          | [] => ks.isEmpty && (match T.dfl.lookup f with
            | some ds => dflEq ds vs
            | none => false)
          | [⟨kn, b, _⟩] => (match kn with
            | some kn => (match T.kws.lookup f with
              | some k2 => seqS k2 kn
              | none => false) && (Nat.beq (es'.length + 1) (fnAr T f) && (match vs with
                | [v] => matchE T N m sc v b
                | _ => false))
            | none => false)
          | _ => false)))))
      | _ => false
    | .bi b es => match e with
      | .Call (.Name x _) es' [] _ => (seqS x (biNm b) && isFree T (biNm b)) && (isGlb sc x && (!es'.isEmpty && matchL (matchE T N m sc) es es'))
      | _ => false
    | .bm b o es => match e with
      | .Call (.Attribute o' n apos) es' [] pos => (match b with
        | .append => seqS n "append") && ((apos.endLine == pos.line) && (noSup o' && (Nat.blt es'.length 30 && (!es'.isEmpty && (matchE T N m sc o o' && matchL (matchE T N m sc) es es')))))
      | _ => false
    | .isi a t => match e with
      | .Call (.Name x _) [a', y'] [] _ => (seqS x "isinstance" && isFree T "isinstance") && match y' with
        | .Name y _ => (seqS y (tyNm t) && isFree T (tyNm t)) && (tyOk t && (isGlb sc x && (isGlb sc y && (noStar a' && matchE T N m sc a a'))))
        | _ => false
      | _ => false
    | .ix a i => match e with
      | .Subscript a' i' _ => noSlice i' && (matchE T N m sc a a' && matchE T N m sc i i')
      | _ => false
    | .lc el tg k it cs => match e with
      | .ListComp elt gs scope _ => (match gs with
        | [⟨t, iter, ifs, asy⟩] => decide (asy = 0) && ((match tg with
          | [i] => (match t with
            | .Name y _ => slotIs N i y && (isLcl (relS scope sc) y && blkC N sc scope [(y, i)])
            | _ => false)
          | _ => false) && (matchWf T sc (matchE T N m sc) k it iter && (matchE T N m (relS scope sc) el elt && (Nat.ble cs.length 1 && matchL (matchE T N m (relS scope sc)) cs ifs))))
        | _ => false)
      | _ => false
where
  dflEq : List VV → List Ex → Bool
    | [], [] => true
    | v :: vs, .con w :: es => (match v, w with
      | .non, .non => true
      | .int i, .int j => decide (i = j)
      | _, _ => false) && dflEq vs es
    | _, _ => false
def matchW (T : Tb) (N : List Str) (m : Nat) (sc : Scope) (k : ItK) (it : List Ex) (iter : Expr) : Bool := matchWf T sc (matchE T N m sc) k it iter
/-- what a callee at a level keeps -/
structure CalOk (Γ : Gm) (T : Tb) (j : Nat) (c : Callee) : Prop where
  fn : ∀ (f : Nat) (x : Str) (np : Nat), T.fns[f]? = some (x, np) → ∃ fd ps, FnOk Γ.P Γ.w Γ.K Γ.mg Γ.base (L2N.CX Γ.P Γ.w) j (Γ.fa f) fd ps (spV Γ np (c f)) ∧ Γ.mg x = some (.ref (Γ.fa f)) ∧ PySem.W.keepIn Γ.K (.ref (Γ.fa f)) = true ∧ (∀ ws h, c f ws h = .fail ∨ ws.length = np) ∧
    (T.dfl.lookup f = none → Binds Γ.K fd ps []) ∧ (∀ ds, T.dfl.lookup f = some ds → ∃ dvs dus, Binds Γ.K fd ps dus ∧ Vals dvs dus ∧ ∀ ι sz H, RVs Γ ι sz H ds dvs) ∧
    (∀ kn, T.kws.lookup f = some kn → ∀ n, n + 1 = np → KBn Γ.K fd ps n [kn] (fun us ws => us ++ ws) (fun vs zs => vs ++ zs))
structure GloOk (Γ : Gm) (T : Tb) : Prop where
  glo : ∀ (g : Nat) (x : Str) (v : VV), T.glo[g]? = some (x, v) → ∃ u xv, Γ.mg x = some u ∧ RelV xv u ∧ ∀ ι sz H, RV Γ ι sz H v xv
  free : ∀ x, isFree T x = true → Γ.mg x = none
def Gof (T : Tb) (g : Nat) : Option VV := (T.glo[g]?).map (·.2)
/-- the place of an expression -/
structure OkX (Γ : Gm) (T : Tb) (N : List Str) (j : Nat) (X : Cx) (sc : Scope) (W : WX) : Prop extends Lk Γ X W j where
  N : X.N = N
  sc : X.env.scope = sc
end VI

end
section
/-! VM: expressions that match are sound. Own work. -/
namespace VI
open PySem PySem.Spec PyProof.Rows L2

theorem ba {a b : Bool} (h : (a && b) = true) : a = true ∧ b = true := Bool.and_eq_true_iff.mp h
theorem dflEq_ok {G : Nat → Option VV} {c : Callee} : ∀ {ds : List VV} {vs : List Ex}, matchE.dflEq ds vs = true → ∀ σ h, Den.list (dens G c vs) σ h = .ok ds h
  | [], [], _, σ, h => rfl
  | v :: ds, .con w :: vs, e, σ, h => by
    simp only [matchE.dflEq] at e
    obtain ⟨e1, e2⟩ := ba e
    have ih := dflEq_ok (G := G) (c := c) e2 σ h
    have hv : v = w := by
      cases v <;> cases w <;> first | rfl | (cases e1; done) | (have := of_decide_eq_true e1; rw [this])
    subst hv
    simp only [dens, Den.list, den, Den.of, R.bind_ok, ih]
  | [], _ :: _, e, _, _ => by simp [matchE.dflEq] at e
  | _ :: _, [], e, _, _ => by simp [matchE.dflEq] at e
  | v :: ds, x :: vs, e, σ, h => by
    cases x <;> first | (simp [matchE.dflEq] at e; done) | skip
    rename_i w
    simp only [matchE.dflEq] at e
    obtain ⟨e1, e2⟩ := ba e
    have ih := dflEq_ok (G := G) (c := c) e2 σ h
    have hv : v = w := by
      cases v <;> cases w <;> first | rfl | (cases e1; done) | (have := of_decide_eq_true e1; rw [this])
    subst hv
    simp only [dens, Den.list, den, Den.of, R.bind_ok, ih]
section
variable {Γ : Gm} {T : Tb} {c : Callee} {j : Nat} {N : List Str}
theorem OkX.blk {X : Cx} {sc : Scope} {W : WX} (ok : OkX Γ T N j X sc W) (scope : Scope) (s : Shared) (H : Hp) (C : Addr) (cl : List (Str × Addr)) (fp : List Addr) : OkX Γ T N j (Blk X scope s H C cl fp) (relS scope sc) WF :=
  ⟨⟨ok.P, ok.w, ok.K, ok.mg, ok.base, ok.calm, ok.room, takes_false, ok.nd⟩, ok.N, by rw [← ok.sc]; rfl⟩
theorem matchL_ok {X : Cx} {W : WX} {f : Ex → Expr → Bool} (hf : ∀ ir e, f ir e = true → PE X e (TEo Γ W (den (Gof T) c ir).e) ∧ PT X e (TTo Γ W (den (Gof T) c ir).t)) :
    ∀ {irs : List Ex} {es : List Expr}, matchL f irs es = true → Dns X Γ W es (dens (Gof T) c irs)
  | [], [], _ => .nil
  | x :: xs, e :: es, h => by
    simp only [matchL] at h
    obtain ⟨h1, h⟩ := ba h
    obtain ⟨h2, h3⟩ := ba h
    obtain ⟨p1, p2⟩ := hf x e h2
    exact .cons p1 p2 (noStar_ok h1 es) (matchL_ok hf h3)
  | [], _ :: _, h => by simp [matchL] at h
  | _ :: _, [], h => by simp [matchL] at h
theorem ne_of_isEmpty {as : List Expr} (h : (!as.isEmpty) = true) : as ≠ [] := by
  intro e
  subst e
  cases h
theorem cons_of {as : List Expr} (h : (!as.isEmpty) = true) : ∃ a as', as = a :: as' := by
  cases as with
  | nil => cases h
  | cons a as => exact ⟨a, as, rfl⟩
theorem e_con {X : Cx} {W : WX} {v : VV} {cc : Const} {k : Nat} {pos : Pos} (h : conEq v cc = true) : PE X (.Constant cc k pos) (TEo Γ W fun _ h => .ok v h) := by
  cases v <;> cases cc <;> first | (cases h; done) | skip
  · exact e_non
  · rename_i b d
    have e : b = d := eq_of_beq h
    subst e
    exact e_bl
  · rename_i i i'
    have e := of_decide_eq_true (show decide (i = i') = true from h)
    subst e
    exact e_int
  · rename_i s x
    obtain ⟨h1, h2⟩ := ba h
    exact e_str (seqS_eq h1) fun d hd => blt_lt (List.all_eq_true.mp h2 d hd)
theorem boot_of (b : Bi) : bootBuiltins (biNm b) = some (match b with
    | .len => .builtin "len"
    | .abs => .builtin "abs"
    | .max2 => .builtin "max"
    | .max3 => .builtin "max"
    | .min2 => .builtin "min"
    | .int_ => .type "int"
    | .divmod => .builtin "divmod") := by
  cases b <;> decide +kernel
theorem boot_ty (t : Ty) (h : tyOk t = true) : bootBuiltins (tyNm t) = some (.type (tyStr t)) := by
  cases t <;> first | (cases h; done) | decide +kernel
theorem noSet_fold {iter : Expr} (h : noSet iter = true) (env : Env) (x : Value) : foldedSetIterable iter env x = pure x := by
  cases iter <;> first | rfl | cases h
/-- a comprehension's parts -/
def LcP (Γ : Gm) (X : Cx) (W : WX) (e : Expr) (de : Den) (i : Nat) (kk : ItK) (its cs : List Den) : Prop :=
  ∃ elt tg iter ifs scope pos y, e = .ListComp elt [⟨tg, iter, ifs, 0⟩] scope pos ∧ PI X tg iter (TIo Γ W fun σ h => (Den.list its σ h).bind fun vs h1 => .of (walk kk vs h1)) ∧ BlkOk X.N X.env.scope scope [(y, i)] ∧
    (∀ s H C cl fp, PG (Blk X scope s H C cl fp) tg (gName i)) ∧ (∀ s H C cl fp, PTs (Blk X scope s H C cl fp) ifs (TTo Γ WF (andT cs))) ∧ (∀ s H C cl fp, PE (Blk X scope s H C cl fp) elt (TEo Γ WF de.e)) ∧ ∀ x, foldedSetIterable iter X.env x = pure x
theorem LcP.pe {X : Cx} {W : WX} {e : Expr} {de : Den} {i : Nat} {kk : ItK} {its cs : List Den} (hc : X.calm = true) (hN : X.N.Nodup) (p : LcP Γ X W e de i kk its cs) : PE X e (TEo Γ W (dLc de [i] kk its cs).e) := by
  obtain ⟨elt, tg, iter, ifs, scope, pos, y, rfl, hi, ok, hg, ht, he, hs⟩ := p
  exact (pe_lc hc hN hi ok hg ht he hs).imp (e_lc (pos := pos) hc hN hi ok hg ht he hs)
/-- what is walked, as it is written -/
theorem walk_ok (G : GloOk Γ T) {X : Cx} {sc : Scope} {W : WX} {tg : Expr} (ok : OkX Γ T N j X sc W) {m : Nat} (isub : ∀ ir e, matchE T N m sc ir e = true → PE X e (TEo Γ W (den (Gof T) c ir).e) ∧ PT X e (TTo Γ W (den (Gof T) c ir).t)) {k : ItK} {it : List Ex} {iter : Expr} (h : matchW T N m sc k it iter = true) :
    PI X tg iter (TIo Γ W fun σ h => (Den.list (dens (Gof T) c it) σ h).bind fun vs h1 => .of (walk k vs h1)) ∧ ∀ x, foldedSetIterable iter X.env x = pure x := by
  have gl : ∀ {x : Str}, isGlb sc x = true → Gl X x := fun {x} h => by
    show X.env.scope.names.lookup x = some .globalImplicit
    rw [ok.sc]
    exact isGlb_ok h
  cases k with
  | rng =>
    cases iter <;> first | (cases h; done) | skip
    rename_i fn as kws pos
    cases fn <;> first | (cases h; done) | skip
    rename_i x p
    cases kws <;> first | (cases h; done) | skip
    simp only [matchW, matchWf] at h
    obtain ⟨h1, h⟩ := ba h
    obtain ⟨h1a, h1b⟩ := ba h1
    obtain ⟨h2, h⟩ := ba h
    obtain ⟨h3, h4⟩ := ba h
    have ex := seqS_eq h1a
    subst ex
    have fr : X.mg "range" = none := by rw [ok.mg]; exact G.free _ h1b
    have hd := matchL_ok (W := W) (c := c) isub h4
    refine ⟨?_, fun _ => rfl⟩
    match as, h3, hd with
    | [a], _, hd => exact i_rng1 (gl h2) fr hd
    | [a, b], _, hd => exact i_rng2 (gl h2) fr hd
    | [], h3, _ => cases h3
    | _ :: _ :: _ :: as, h3, _ =>
      rcases Bool.or_eq_true_iff.mp h3 with h3 | h3
      · have := beq_t h3
        simp at this
      · have := beq_t h3
        simp at this
  | val =>
    match it, h with
    | [d], h =>
      simp only [matchW, matchWf] at h
      obtain ⟨h1, h2⟩ := ba h
      exact ⟨i_val ok.K (isub d iter h2).1, noSet_fold h1 _⟩
    | [], h => simp [matchW, matchWf] at h
    | _ :: _ :: _, h => simp [matchW, matchWf] at h
theorem lc_parts (G : GloOk Γ T) {X : Cx} {sc : Scope} {W : WX} (ok : OkX Γ T N j X sc W) {m : Nat}
    (sub : ∀ (X : Cx) (sc : Scope) (W : WX) (ir : Ex) (e : Expr), OkX Γ T N j X sc W → matchE T N m sc ir e = true → PE X e (TEo Γ W (den (Gof T) c ir).e) ∧ PT X e (TTo Γ W (den (Gof T) c ir).t))
    {el : Ex} {tg : List Nat} {k : ItK} {it cs : List Ex} {e : Expr} (h : matchE T N (m + 1) sc (.lc el tg k it cs) e = true) :
    ∃ i, tg = [i] ∧ LcP Γ X W e (den (Gof T) c el) i k (dens (Gof T) c it) (dens (Gof T) c cs) := by
  cases e <;> first | (cases h; done) | skip
  rename_i elt gs scope pos
  match gs, h with
  | [], h => simp [matchE] at h
  | _ :: _ :: _, h => simp [matchE] at h
  | [⟨t, iter, ifs, asy⟩], h =>
    simp only [matchE] at h
    obtain ⟨h1, h⟩ := ba h
    obtain ⟨h2, h⟩ := ba h
    obtain ⟨h3, h⟩ := ba h
    obtain ⟨h4, h⟩ := ba h
    obtain ⟨h5, h6⟩ := ba h
    have e0 := of_decide_eq_true h1
    subst e0
    match tg, h2 with
    | [], h2 => cases h2
    | _ :: _ :: _, h2 => cases h2
    | [i], h2 =>
      obtain ⟨y, py, rfl, h2⟩ : ∃ y py, t = .Name y py ∧ (slotIs N i y && (isLcl (relS scope sc) y && blkC N sc scope [(y, i)])) = true := by
        cases t <;> first | (cases h2; done) | exact ⟨_, _, rfl, h2⟩
      obtain ⟨g1, h2⟩ := ba h2
      obtain ⟨g2, g3⟩ := ba h2
      obtain ⟨w1, w2⟩ := walk_ok (c := c) (tg := .Name y py) G ok (fun ir e => sub X sc W ir e ok) h3
      refine ⟨i, rfl, elt, .Name y py, iter, ifs, scope, pos, y, rfl, w1, by rw [ok.N, ok.sc]; exact blkOk_by g3, fun s H C cl fp => ?_, fun s H C cl fp => ?_, fun s H C cl fp => ?_, w2⟩
      · have okb := ok.blk scope s H C cl fp
        have loc : (Blk X scope s H C cl fp).env.scope.names.lookup y = some .local := by rw [okb.sc]; exact isLcl_ok g2
        exact pg_name okb.nd (by rw [okb.N]; exact slotIs_ok g1) (.inl loc) (.inr loc)
      · have okb := ok.blk scope s H C cl fp
        have hd := matchL_ok (W := WF) (c := c) (fun ir e => sub _ _ WF ir e okb) h6
        have hl := ble_le h5
        match cs, ifs, hd, hl with
        | [], [], _, _ => exact p_nil
        | [d], [f], .cons _ ht _ _, _ => exact p_one ht
        | _ :: _ :: _, _, _, hl => simp at hl
      · exact (sub _ _ WF el elt (ok.blk scope s H C cl fp) h4).1
theorem snd_e (G : GloOk Γ T) (C : CalOk Γ T j c) : ∀ (m : Nat) (X : Cx) (sc : Scope) (W : WX) (ir : Ex) (e : Expr), OkX Γ T N j X sc W → matchE T N m sc ir e = true →
    PE X e (TEo Γ W (den (Gof T) c ir).e) ∧ PT X e (TTo Γ W (den (Gof T) c ir).t) := by
  intro m
  induction m with
  | zero => intro X sc W ir e ok h; cases h
  | succ m ih =>
    intro X sc W ir e ok h
    have hu : X.A.units + 64 < cLine := ok.room.units
    have isub : ∀ ir e, matchE T N m sc ir e = true → PE X e (TEo Γ W (den (Gof T) c ir).e) ∧ PT X e (TTo Γ W (den (Gof T) c ir).t) := fun ir e => ih X sc W ir e ok
    have lst : ∀ {irs : List Ex} {es : List Expr}, matchL (matchE T N m sc) irs es = true → Dns X Γ W es (dens (Gof T) c irs) := fun h => matchL_ok isub h
    have gl : ∀ {x : Str}, isGlb sc x = true → Gl X x := fun {x} h => by
      show X.env.scope.names.lookup x = some .globalImplicit
      rw [ok.sc]
      exact isGlb_ok h
    have fre : ∀ {x : Str}, isFree T x = true → X.mg x = none := fun {x} h => by rw [ok.mg]; exact G.free x h
    cases ir with
    | con v =>
      cases e <;> first | (cases h; done) | skip
      rename_i cc k pos
      have p : PE X (.Constant cc k pos) (TEo Γ W (fun _ h => R.ok v h)) := e_con (show conEq v cc = true from h)
      exact ⟨p, t_of ok.K p (by intro _; rfl)⟩
    | var i =>
      cases e <;> first | (cases h; done) | skip
      rename_i x pos
      simp only [matchE] at h
      obtain ⟨h1, h⟩ := ba h
      obtain ⟨h2, h⟩ := ba h
      obtain ⟨h3, h4⟩ := ba h
      have p : PE X (.Name x pos) (TEo Γ W (fun σ h => getv σ i h)) := e_var (by rw [ok.N]; exact slotIs_ok h1) (by rw [ok.sc]; exact isVis_ok h2) (nDbg_ok h3) (nCd_ok h4)
      exact ⟨p, t_of ok.K p (by intro _; rfl)⟩
    | glo g =>
      cases e <;> first | (cases h; done) | skip
      rename_i x pos
      simp only [matchE] at h
      obtain ⟨h1, h⟩ := ba h
      obtain ⟨h2, h3⟩ := ba h
      cases eg : T.glo[g]? with
      | none => rw [eg] at h1; cases h1
      | some q =>
        rw [eg] at h1
        obtain ⟨y, v⟩ := q
        have ey : y = x := seqS_eq h1
        subst ey
        obtain ⟨u, xv, m1, m2, m3⟩ := G.glo g y v eg
        have p0 : PE X (.Name y pos) (TEo Γ W (fun _ h => .ok v h)) := e_glo (gl h2) (by rw [ok.mg]; exact m1) m2 (nDbg_ok h3) m3
        have e1 : (fun (_ : Sl) (h : Hv) => VI.lift h (Gof T g)) = fun _ h => .ok v h := by
          funext _ h
          unfold Gof
          rw [eg]
          rfl
        have p : PE X (.Name y pos) (TEo Γ W (fun _ h => VI.lift h (Gof T g))) := by rw [e1]; exact p0
        exact ⟨p, t_of ok.K p (by intro _; rfl)⟩
    | bin o a b =>
      cases e <;> first | (cases h; done) | skip
      rename_i a' o' b' pos
      simp only [matchE] at h
      obtain ⟨h1, h⟩ := ba h
      obtain ⟨h2, h3⟩ := ba h
      have eo := opEq_ok h1
      subst eo
      have p := e_bin (pos := pos) (o := o) (isub a a' h2).1 (isub b b' h3).1
      exact ⟨p, t_of ok.K p (by intro _; rfl)⟩
    | neg a =>
      cases e <;> first | (cases h; done) | skip
      rename_i o' a' pos
      cases o' <;> first | (cases h; done) | skip
      have p := e_neg (pos := pos) (isub a a' h).1
      exact ⟨p, t_of ok.K p (by intro _; rfl)⟩
    | nt a =>
      cases e <;> first | (cases h; done) | skip
      rename_i o' a' pos
      cases o' <;> first | (cases h; done) | skip
      exact ⟨e_not ok.K (isub a a' h).1, t_not (isub a a' h).2⟩
    | and_ es =>
      cases e <;> first | (cases h; done) | skip
      rename_i o' es' pos
      cases o' <;> first | (cases h; done) | skip
      simp only [matchE] at h
      obtain ⟨h1, h2⟩ := ba h
      exact ⟨e_and ok.K (lst h2) (ne_of_isEmpty h1), (t_and (lst h2) (ne_of_isEmpty h1)).pt⟩
    | or_ es =>
      cases e <;> first | (cases h; done) | skip
      rename_i o' es' pos
      cases o' <;> first | (cases h; done) | skip
      simp only [matchE] at h
      obtain ⟨h1, h2⟩ := ba h
      exact ⟨e_or ok.K (lst h2) (ne_of_isEmpty h1), (t_or (lst h2) (ne_of_isEmpty h1)).pt⟩
    | cmp o a b =>
      cases e <;> first | (cases h; done) | skip
      rename_i a' os bs pos
      match os, bs, h with
      | [o'], [b'], h =>
        simp only [matchE] at h
        obtain ⟨h1, h⟩ := ba h
        obtain ⟨h2, h⟩ := ba h
        obtain ⟨h3, h4⟩ := ba h
        have eo := coEq_ok h1
        subst eo
        exact ⟨e_cmp ok.K hu (isub a a' h3).1 (isub b b' h4).1 (noSet_ok h2 _), t_cmp ok.K hu (isub a a' h3).1 (isub b b' h4).1 (noSet_ok h2 _)⟩
      | [], _, h => simp [matchE] at h
      | _ :: _ :: _, _, h => simp [matchE] at h
      | [_], [], h => simp [matchE] at h
      | [_], _ :: _ :: _, h => simp [matchE] at h
    | chn o p a b d =>
      cases e <;> first | (cases h; done) | skip
      rename_i a' os bs pos
      match os, bs, h with
      | [o', p'], [b', d'], h =>
        simp only [matchE] at h
        obtain ⟨h1, h⟩ := ba h
        obtain ⟨h1a, h1b⟩ := ba h1
        obtain ⟨h2, h⟩ := ba h
        obtain ⟨h3, h⟩ := ba h
        obtain ⟨h4, h5⟩ := ba h
        have eo := coEq_ok h1a
        have ep := coEq_ok h1b
        subst eo ep
        have hm : lastMarks [copOf o, copOf p] [b', d'] = false := noSet_ok h2 _
        exact ⟨e_chn ok.K hu (isub a a' h3).1 (isub b b' h4).1 (isub d d' h5).1 hm, t_chn ok.K hu (isub a a' h3).1 (isub b b' h4).1 (isub d d' h5).1 hm⟩
      | [], _, h => simp [matchE] at h
      | [_], _, h => simp [matchE] at h
      | _ :: _ :: _ :: _, _, h => simp [matchE] at h
      | [_, _], [], h => simp [matchE] at h
      | [_, _], [_], h => simp [matchE] at h
      | [_, _], _ :: _ :: _ :: _, h => simp [matchE] at h
    | ife a b d =>
      cases e <;> first | (cases h; done) | skip
      rename_i a' b' d' pos
      simp only [matchE] at h
      obtain ⟨h1, h⟩ := ba h
      obtain ⟨h2, h3⟩ := ba h
      refine ⟨e_ife (isub a a' h1).2 (isub b b' h2).1 (isub d d' h3).1, ⟨fun pins s σ H Q I ⟨ι, σv, hh, rs, rh, q⟩ => q.elim⟩⟩
    | tup es =>
      cases e <;> first | (cases h; done) | skip
      rename_i es' k pos
      simp only [matchE] at h
      obtain ⟨h1, h2⟩ := ba h
      have p := e_tup (pos := pos) (x1 := k) (lst h2) (ble_le h1)
      exact ⟨p, t_of ok.K p (by intro _; rfl)⟩
    | lst es =>
      cases e <;> first | (cases h; done) | skip
      rename_i es' pos
      simp only [matchE] at h
      obtain ⟨h1, h2⟩ := ba h
      have p := e_lst (pos := pos) (lst h2) (ble_le h1)
      exact ⟨p, t_of ok.K p (by intro _; rfl)⟩
    | call f es =>
      cases e <;> first | (cases h; done) | skip
      rename_i fn es' kws pos
      cases fn <;> first | (cases h; done) | skip
      rename_i x p
      cases kws <;> first | (cases h; done) | skip
      simp only [matchE] at h
      obtain ⟨h1, h⟩ := ba h
      obtain ⟨h2, h⟩ := ba h
      obtain ⟨h3, h⟩ := ba h
      obtain ⟨h3d, h⟩ := ba h
      obtain ⟨h4, h5⟩ := ba h
      obtain ⟨a, as, rfl⟩ := cons_of h4
      cases ef : T.fns[f]? with
      | none => simp only [fnNm, ef, Option.map_none] at h1; cases h1
      | some q =>
        obtain ⟨y, np⟩ := q
        simp only [fnNm, ef, Option.map_some] at h1
        have ey := seqS_eq h1
        subst ey
        obtain ⟨fd, ps, F, f1, f2, f3, f4, f5, f6⟩ := C.fn f y np ef
        have F' : FnOk X.prog X.w X.K X.mg X.base (L2N.CX X.prog X.w) j (Γ.fa f) fd ps (spV Γ np (c f)) := by
          rw [ok.P, ok.w, ok.K, ok.mg, ok.base]; exact F
        cases ed : T.dfl.lookup f with
        | none =>
          have p : PE X (.Call (.Name y p) (a :: as) [] pos) (TEo Γ W _) := e_call F' f3 ok.room ok.tk (gl h2) (by rw [ok.mg]; exact f1) (by rw [ok.K]; exact f2) (by rw [ok.K]; exact f4 ed) (nDbg_ok h3) (lst h5)
          exact ⟨p, t_of ok.K p (by intro _; rfl)⟩
        | some ds => rw [ed] at h3d; cases h3d
    | callk f es ks vs =>
      cases e <;> first | (cases h; done) | skip
      rename_i fn es' kws pos
      cases fn <;> first | (cases h; done) | skip
      rename_i x p
      simp only [matchE] at h
      obtain ⟨h1, h⟩ := ba h
      obtain ⟨h2, h⟩ := ba h
      obtain ⟨h3, h⟩ := ba h
      obtain ⟨h4, h⟩ := ba h
      obtain ⟨h5, h6⟩ := ba h
      obtain ⟨a, as, rfl⟩ := cons_of h4
      cases ef : T.fns[f]? with
      | none => simp only [fnNm, ef, Option.map_none] at h1; cases h1
      | some q =>
        obtain ⟨y, np⟩ := q
        simp only [fnNm, ef, Option.map_some] at h1
        have ey := seqS_eq h1
        subst ey
        obtain ⟨fd, ps, F, f1, f2, f3, f4, f5, f6⟩ := C.fn f y np ef
        have F' : FnOk X.prog X.w X.K X.mg X.base (L2N.CX X.prog X.w) j (Γ.fa f) fd ps (spV Γ np (c f)) := by
          rw [ok.P, ok.w, ok.K, ok.mg, ok.base]; exact F
        match kws, h6 with
        | [], h6 =>
          simp only at h6
          obtain ⟨h7, h8⟩ := ba h6
          cases ed : T.dfl.lookup f with
          | none => rw [ed] at h8; cases h8
          | some ds =>
            rw [ed] at h8
            obtain ⟨dvs, dus, b1, b2, b3⟩ := f5 ds ed
            have p0 := e_calld (p := p) (pos := pos) F' f3 ok.room ok.tk (gl h2) (by rw [ok.mg]; exact f1) (by rw [ok.K]; exact f2) (by rw [ok.K]; exact b1) b2 b3 (nDbg_ok h3) (lst h5)
            have e1 : (fun (σ : Sl) (h : Hv) => (Den.list (dens (Gof T) c es) σ h).bind fun vs_1 h1 => (Den.list (dens (Gof T) c vs) σ h1).bind fun ws h2 => c f (vs_1 ++ ws) h2) = fun σ h => (Den.list (dens (Gof T) c es) σ h).bind fun vs h1 => c f (vs ++ ds) h1 := by
              funext σ h
              congr 1
              funext vs' h1
              rw [dflEq_ok h8]
              rfl
            have p : PE X (.Call (.Name y p) (a :: as) [] pos) (TEo Γ W (fun σ h => (Den.list (dens (Gof T) c es) σ h).bind fun vs_1 h1 => (Den.list (dens (Gof T) c vs) σ h1).bind fun ws h2 => c f (vs_1 ++ ws) h2)) := by
              rw [e1]; exact p0
            exact ⟨p, t_of ok.K p (by intro _; rfl)⟩
        | [⟨kn, b, kpos⟩], h6 =>
          cases kn with
          | none => simp at h6
          | some kn =>
            simp only at h6
            obtain ⟨h7, h6⟩ := ba h6
            obtain ⟨h8, h9⟩ := ba h6
            cases ek : T.kws.lookup f with
            | none => rw [ek] at h7; cases h7
            | some k2 =>
              rw [ek] at h7
              have e2 := seqS_eq h7
              subst e2
              match vs, h9 with
              | [v], h9 =>
                have hn : (a :: as).length + 1 = np := by
                  have := beq_t h8
                  simp only [fnAr, ef] at this
                  exact this
                have p : PE X (.Call (.Name y p) (a :: as) [⟨some k2, b, kpos⟩] pos) (TEo Γ W _) := e_callk F' f3 ok.room ok.tk (gl h2) (by rw [ok.mg]; exact f1) (by rw [ok.K]; exact f2) (by rw [ok.K]; exact f6 k2 ek _ hn) (nDbg_ok h3) (lst h5) rfl (isub v b h9).1
                exact ⟨p, t_of ok.K p (by intro _; rfl)⟩
              | [], h9 => cases h9
              | _ :: _ :: _, h9 => cases h9
        | _ :: _ :: _, h6 => simp at h6
    | bi b es =>
      cases e <;> first | (cases h; done) | skip
      rename_i fn es' kws pos
      cases fn <;> first | (cases h; done) | skip
      rename_i x p
      cases kws <;> first | (cases h; done) | skip
      simp only [matchE] at h
      obtain ⟨h1, h⟩ := ba h
      obtain ⟨h1a, h1b⟩ := ba h1
      obtain ⟨h2, h⟩ := ba h
      obtain ⟨h4, h5⟩ := ba h
      obtain ⟨a, as, rfl⟩ := cons_of h4
      have ex := seqS_eq h1a
      subst ex
      have p : PE X (.Call (.Name (biNm b) p) (a :: as) [] pos) (TEo Γ W (dBi b (dens (Gof T) c es)).e) := by
        cases b
        · exact e_bi (c_len ok.K) (gl h2) (fre h1b) (boot_of _) (by decide +kernel) (by decide +kernel) (lst h5)
        · exact e_bi c_abs (gl h2) (fre h1b) (boot_of _) (by decide +kernel) (by decide +kernel) (lst h5)
        · exact e_bi (c_max2 ok.calm) (gl h2) (fre h1b) (boot_of _) (by decide +kernel) (by decide +kernel) (lst h5)
        · exact e_bi (c_max3 ok.calm) (gl h2) (fre h1b) (boot_of _) (by decide +kernel) (by decide +kernel) (lst h5)
        · exact e_bi (c_min2 ok.calm) (gl h2) (fre h1b) (boot_of _) (by decide +kernel) (by decide +kernel) (lst h5)
        · exact e_biT c_int (gl h2) (fre h1b) (boot_of _) (by decide +kernel) (by decide +kernel) (lst h5)
        · exact e_bi c_divmod (gl h2) (fre h1b) (boot_of _) (by decide +kernel) (by decide +kernel) (lst h5)
      exact ⟨p, t_of ok.K p (by intro _; rfl)⟩
    | bm b o es =>
      cases e <;> first | (cases h; done) | skip
      rename_i fn es' kws pos
      cases fn <;> first | (cases h; done) | skip
      rename_i o' n apos
      cases kws <;> first | (cases h; done) | skip
      simp only [matchE] at h
      obtain ⟨h1, h⟩ := ba h
      obtain ⟨h2, h⟩ := ba h
      obtain ⟨h3, h⟩ := ba h
      obtain ⟨h4, h⟩ := ba h
      obtain ⟨h5, h⟩ := ba h
      obtain ⟨h6, h7⟩ := ba h
      obtain ⟨a, as, rfl⟩ := cons_of h5
      cases b
      have en := seqS_eq (show seqS n "append" = true from h1)
      subst en
      have p := e_append (W := W) ok.K (isub o o' h6).1 (noSup_ok h3) h2 (blt_lt h4) (lst h7)
      exact ⟨p, t_of ok.K p (by intro _; rfl)⟩
    | isi a t =>
      cases e <;> first | (cases h; done) | skip
      rename_i fn es' kws pos
      cases fn <;> first | (cases h; done) | skip
      rename_i x p
      match es', kws, h with
      | [], _, h => simp [matchE] at h
      | [_], _, h => simp [matchE] at h
      | _ :: _ :: _ :: _, _, h => simp [matchE] at h
      | [_, _], _ :: _, h => simp [matchE] at h
      | [a', y'], [], h =>
        simp only [matchE] at h
        obtain ⟨h1, h⟩ := ba h
        obtain ⟨h1a, h1b⟩ := ba h1
        cases y' <;> first | (cases h; done) | skip
        rename_i y py h
        obtain ⟨h2, h⟩ := ba h
        obtain ⟨h2a, h2b⟩ := ba h2
        obtain ⟨h3, h⟩ := ba h
        obtain ⟨h4, h⟩ := ba h
        obtain ⟨h5, h⟩ := ba h
        obtain ⟨h6, h7⟩ := ba h
        have ex := seqS_eq h1a
        have ey := seqS_eq h2a
        subst ex ey
        have nn : tyNm t ≠ "__name__" ∧ (tyNm t == ("__debug__" : Str)) = false := by
          cases t <;> first | (cases h3; done) | (constructor <;> decide +kernel)
        have p : PE X (.Call (.Name "isinstance" p) [a', .Name (tyNm t) py] [] pos) (TEo Γ W (dIsi (den (Gof T) c a) t).e) := e_isi ok.K (gl h4) (fre h1b) (gl h5) (fre h2b) (boot_ty t h3) nn.1 nn.2 (fun env => noStar_ok h6 _ env) (isub a a' h7).1
        exact ⟨p, t_of ok.K p (by intro _; rfl)⟩
    | ix a i =>
      cases e <;> first | (cases h; done) | skip
      rename_i a' i' pos
      simp only [matchE] at h
      obtain ⟨h1, h⟩ := ba h
      obtain ⟨h2, h3⟩ := ba h
      have p := e_ix (pos := pos) ok.K (isub a a' h2).1 (isub i i' h3).1 h1
      exact ⟨p, t_of ok.K p (by intro _; rfl)⟩
    | lc el tg k it cs =>
      obtain ⟨i, rfl, p⟩ := lc_parts (c := c) G ok ih h
      have p1 := p.pe ok.calm ok.nd
      obtain ⟨elt, tg, iter, ifs, scope, pos, y, rfl, _⟩ := p
      exact ⟨p1, t_of ok.K p1 (by intro _; rfl)⟩
end
end VI

end
section
/-! VN: statements that match are sound. Own work. -/
namespace VI
open PySem PySem.Spec PyProof.Rows L2

section
variable {Γ : Gm} {X : Cx} {W : WX} {e : Expr} {de : Den} {pos : Pos}
theorem asg_imp {t : Tg} {D : Ends} {σ : L2.St} {H : Hp} (q : TSo Γ W (sAsg t de) D σ H) : TEo Γ W de.e σ H (fun x H1 => TGo Γ W (putTg t) x σ H1 D.nx) := by
  obtain ⟨ι, σv, h, rs, rh, q⟩ := q
  refine ⟨ι, σv, h, rs, rh, (PostS.of rs q).imp fun x H1 ⟨ι1, v, h1, s1, rh1, rv1, q1⟩ => ⟨ι1, σv, h1, v, rs.mono s1, rh1, rv1, ?_⟩⟩
  have q2 := PostS.tg (rs.mono s1) q1
  cases z : putTg t v σv h1 with
  | ok σ2 h2 =>
    rw [z] at q2
    intro ι' σ' H' st rh' rs'
    obtain ⟨ι3, σ3, h3, _, rh3, rs3, q3⟩ := q2 ι' σ' H' st rh' rs'
    exact PostS.now q3 rh3 rs3
  | exc c p h2 => rw [z] at q2; exact q2
  | fail => rw [z] at q2; exact q2
theorem TGo.gname {i : Nat} {x : V} {σ : L2.St} {H : Hp} {Q : L2.St → Hp → Prop} (q : TGo Γ W (putTg (.nm i)) x σ H Q) : gName i x σ H Q := by
  obtain ⟨ι, σv, h, v, rs, rh, rv, q⟩ := q
  exact q ι _ H Stp.refl rh (rs.set rv i)
/-- name = [comprehension], on one line -/
theorem s_setLc {i j : Nat} {y : Str} {py : Pos} {kk : ItK} {its cs : List Den} (hc : X.calm = true) (hN : X.N.Nodup) (hy : X.N[i]? = some y) (hyl : X.env.scope.names.lookup y = some .local) (hsw : swapsWith e (some (.Name y py)) pos.line X.env = pure true)
    (p : LcP Γ X W e de j kk its cs) : PS X (.Assign [.Name y py] e pos) (TSo Γ W (sAsg (.nm i) (dLc de [j] kk its cs))) := by
  obtain ⟨elt, tg, iter, ifs, scope, lpos, z, rfl, hi, ok, hg, ht, he, hs⟩ := p
  refine (ps_setLc hc hN hy hyl hsw hi ok hg ht he hs).imp fun D σ H q => ?_
  exact e_lc (pos := lpos) hc hN hi ok hg ht he hs σ H _ ((asg_imp q).imp fun x H' q' => q'.gname)
/-- a, b = x, y -/
theorem s_par2 {i j : Nat} {x y : Str} {a b : Expr} {ds : List Den} {px py pt : Pos} {kt k2 pt2} (hc : X.calm = true) (hN : X.N.Nodup) (hi : X.N[i]? = some x) (hj : X.N[j]? = some y) (hij : i ≠ j)
    (hx : X.env.scope.names.lookup x = some .local) (hy : X.env.scope.names.lookup y = some .local) (ha : Dns X Γ W [a, b] ds)
    (hw : swappedStores [.Tuple [.Name x px, .Name y py] kt pt] (.Tuple [a, b] k2 pt2) X.env = pure (some [x, y])) :
    PS X (.Assign [.Tuple [.Name x px, .Name y py] kt pt] (.Tuple [a, b] k2 pt2) pos) (TSo Γ W (sPar [i, j] ds)) :=
  (ps_par hc hN hi hj hij hx hy (a_list ha) hw).imp fun D σ H ⟨ι, σv, h, rs, rh, q⟩ => ⟨ι, σv, h, rs, rh, (PostS.of rs q).imp fun xs H1 ⟨ι1, vs, h1, s1, rh1, rv1, q1⟩ => by
    match vs, xs, rv1 with
    | [v, w], _, .cons r1 (.cons r2 .nil) =>
      exact ⟨_, _, rfl, q1 ι1 _ H1 Stp.refl rh1 (((rs.mono s1).set r1 i).set r2 j)⟩
    | [], _, _ => exact q1.elim
    | [_], _, _ => exact q1.elim
    | _ :: _ :: _ :: _, _, _ => exact q1.elim⟩
theorem s_par3 {i j l : Nat} {x y z : Str} {a b c : Expr} {ds : List Den} {px py pz pt : Pos} {kt k2 pt2} (hc : X.calm = true) (hN : X.N.Nodup) (hi : X.N[i]? = some x) (hj : X.N[j]? = some y) (hl : X.N[l]? = some z) (hij : i ≠ j) (hil : i ≠ l) (hjl : j ≠ l)
    (hx : X.env.scope.names.lookup x = some .local) (hy : X.env.scope.names.lookup y = some .local) (hz : X.env.scope.names.lookup z = some .local) (ha : Dns X Γ W [a, b, c] ds)
    (hw : swappedStores [.Tuple [.Name x px, .Name y py, .Name z pz] kt pt] (.Tuple [a, b, c] k2 pt2) X.env = pure (some [x, y, z])) :
    PS X (.Assign [.Tuple [.Name x px, .Name y py, .Name z pz] kt pt] (.Tuple [a, b, c] k2 pt2) pos) (TSo Γ W (sPar [i, j, l] ds)) :=
  (ps_par3 hc hN hi hj hl hij hil hjl hx hy hz (a_list ha) hw).imp fun D σ H ⟨ι, σv, h, rs, rh, q⟩ => ⟨ι, σv, h, rs, rh, (PostS.of rs q).imp fun xs H1 ⟨ι1, vs, h1, s1, rh1, rv1, q1⟩ => by
    match vs, xs, rv1 with
    | [v, w, u], _, .cons r1 (.cons r2 (.cons r3 .nil)) =>
      exact ⟨_, _, _, rfl, q1 ι1 _ H1 Stp.refl rh1 ((((rs.mono s1).set r1 i).set r2 j).set r3 l)⟩
    | [], _, _ => exact q1.elim
    | [_], _, _ => exact q1.elim
    | [_, _], _, _ => exact q1.elim
    | _ :: _ :: _ :: _ :: _, _, _ => exact q1.elim⟩
theorem s_bad {st : Stmt} : PS X st (TSo Γ W fun _ _ => .fail) := ps_never.imp fun D σ H ⟨ι, σv, h, rs, rh, q⟩ => q.elim
theorem s_brk : PS X (.Break pos) (TSo Γ W fun σ h => .bk σ h) := ps_break.imp fun D σ H ⟨ι, σv, h, rs, rh, q⟩ => q ι σ H Stp.refl rh rs
theorem s_cnt : PS X (.Continue pos) (TSo Γ W fun σ h => .ct σ h) := ps_continue.imp fun D σ H ⟨ι, σv, h, rs, rh, q⟩ => q ι σ H Stp.refl rh rs
end

/-! ### the order of the stores -/
def blkK (sc : Scope) : ScopeKind := if sc.kind.isAnnotationScope then .function else sc.kind
def stNames (ts : List Expr) (sc : Scope) : List Str :=
  let line := (ts.head?.map (·.pos.line)).getD 0
  ts.filterMap fun
    | .Name id pos => if sc.names.lookup id == some .local && pos.line == line then some id else none
    | _ => none
def anyStar (vs : List Expr) : Bool := vs.any fun | .Starred .. => true | _ => false
def swB (ts vs : List Expr) (sc : Scope) : Option (Option (List Str)) :=
  bif (!(ts.length == 2 || ts.length == 3) || vs.length != ts.length || blkK sc != .function) then some none
  else bif anyStar vs then some none
  else bif ((stNames ts sc).length != ts.length || (stNames ts sc).eraseDups.length != (stNames ts sc).length) then some none
    else bif vs.all (foldedForSure 8) then some none
    else bif vs.all (constantsAlone 8) then none
    else some (some (stNames ts sc))
theorem swB_ok {ts vs : List Expr} {k p k2 p2} {env : Env} {r : Option (List Str)} (h : swB ts vs env.scope = some r) : swappedStores [.Tuple ts k p] (.Tuple vs k2 p2) env = pure r := by
  unfold swB at h
  unfold swappedStores
  simp only [pure_bind]
  cases c1 : (!(ts.length == 2 || ts.length == 3) || vs.length != ts.length || blkK env.scope != .function) with
  | true =>
    rw [c1] at h
    cases h
    exact if_pos c1
  | false =>
    rw [c1] at h
    refine (if_neg (fun z => Bool.noConfusion (c1.symm.trans z))).trans ?_
    cases c2 : anyStar vs with
    | true =>
      rw [c2] at h
      cases h
      exact if_pos c2
    | false =>
      rw [c2] at h
      refine (if_neg (fun z => Bool.noConfusion (c2.symm.trans z))).trans ?_
      cases c3 : ((stNames ts env.scope).length != ts.length || (stNames ts env.scope).eraseDups.length != (stNames ts env.scope).length) with
      | true =>
        rw [c3] at h
        cases h
        exact if_pos c3
      | false =>
        rw [c3] at h
        refine (if_neg (fun z => Bool.noConfusion (c3.symm.trans z))).trans ?_
        cases c4 : vs.all (foldedForSure 8) with
        | true =>
          rw [c4] at h
          cases h
          exact if_pos rfl
        | false =>
          rw [c4] at h
          refine (if_neg (fun z => Bool.noConfusion z)).trans ?_
          cases c5 : vs.all (constantsAlone 8) with
          | true =>
            rw [c5] at h
            cases h
          | false =>
            rw [c5] at h
            cases h
            exact if_neg (fun z => Bool.noConfusion z)

/-! ### matching statements -/
def isComp : Expr → Bool
  | .ListComp .. => true
  | .SetComp .. => true
  | .DictComp .. => true
  | _ => false
def isNone2 (o : Option (Option (List Str))) : Bool := match o with
  | some none => true
  | _ => false
/-- an assignment with nothing exchanged -/
def plainTup (sc : Scope) (ts : List Expr) (e : Expr) : Bool := match e with
  | .Tuple vs _ _ => isNone2 (swB ts vs sc)
  | _ => true
def plainAsg (sc : Scope) (tg e : Expr) : Bool := match tg with
  | .Name y _ => !isComp e || !isLcl sc y
  | .Tuple ts _ _ => plainTup sc ts e
  | _ => false
theorem plain_cases {sc : Scope} {tg e : Expr} (h : plainAsg sc tg e = true) : (∃ y p, tg = .Name y p ∧ (!isComp e || !isLcl sc y) = true) ∨ ∃ ts k p, tg = .Tuple ts k p ∧ plainTup sc ts e = true := by
  cases tg <;> first | (cases h; done) | exact .inl ⟨_, _, rfl, h⟩ | exact .inr ⟨_, _, _, rfl, h⟩
theorem plain_sw {tg e : Expr} {env : Env} (h : plainAsg env.scope tg e = true) : swappedStores [tg] e env = pure none := by
  rcases plain_cases h with ⟨y, p, rfl, h⟩ | ⟨ts, k, p, rfl, h⟩
  · rfl
  · by_cases ht : ∃ vs k2 p2, e = .Tuple vs k2 p2
    case neg => cases e <;> first | rfl | exact absurd ⟨_, _, _, rfl⟩ ht
    obtain ⟨vs, k2, p2, rfl⟩ := ht
    have h : isNone2 (swB ts vs env.scope) = true := h
    cases z : swB ts vs env.scope with
    | none => rw [z] at h; cases h
    | some r =>
      cases r with
      | some r => rw [z] at h; cases h
      | none => exact swB_ok z
theorem plain_sole {tg e : Expr} {l : Nat} {env : Env} (h : plainAsg env.scope tg e = true) : swapsWithSole [tg] e l env = pure false := by
  rcases plain_cases h with ⟨y, p, rfl, h⟩ | ⟨ts, k, p, rfl, h⟩
  · rcases Bool.or_eq_true_iff.mp h with h | h
    · cases e <;> first | (cases h; done) | rfl
    · have k : (env.kindOf y == some .local) = false := by
        cases z : (env.kindOf y == some .local) with
        | false => rfl
        | true =>
          have z2 : env.scope.names.lookup y = some .local := eq_of_beq z
          unfold isLcl at h
          rw [z2] at h
          cases h
      cases e <;> first
        | rfl
        | (unfold swapsWithSole swapsWith
           simp [k])
  · cases e <;> rfl
theorem noComp_exp {e : Expr} {l : Nat} {env : Env} (h : (!isComp e) = true) : swapsWith e none l env = pure false := by
  cases e <;> first | rfl | cases h
def locAt (N : List Str) (sc : Scope) (i : Nat) (e : Expr) : Bool := match e with
  | .Name y _ => slotIs N i y && isLcl sc y
  | _ => false
def visAt (N : List Str) (sc : Scope) (i : Nat) (e : Expr) : Bool := match e with
  | .Name y _ => slotIs N i y && isLoc sc y
  | _ => false
def vissAt (N : List Str) (sc : Scope) : List Nat → List Expr → Bool
  | [], [] => true
  | i :: is, e :: es => visAt N sc i e && vissAt N sc is es
  | _, _ => false
def locsAt (N : List Str) (sc : Scope) : List Nat → List Expr → Bool
  | [], [] => true
  | i :: is, e :: es => locAt N sc i e && locsAt N sc is es
  | _, _ => false
def matchTg (N : List Str) (sc : Scope) (t : Tg) (e : Expr) : Bool := match t with
  | .nm i => visAt N sc i e
  | .tup is => (match e with
    | .Tuple es _ _ => vissAt N sc is es
    | _ => false)
  | .star .. => false
/-- name = [..] with the exchange of the stores -/
def setLc (N : List Str) (sc : Scope) (t : Tg) (ir : Ex) (tg e : Expr) : Bool := match t, ir, tg, e with
  | .nm i, .lc .., .Name y py, .ListComp _ _ scope pos => slotIs N i y && (isLcl sc y && (decide (sc.kind = .function) && ((py.line == pos.line) && !(scope.names.any fun (n, k) => n == y && (k == .local || k == .cell)))))
  | _, _, _, _ => false
def dist2 (is : List Nat) : Bool := match is with
  | [i, j] => !Nat.beq i j
  | [i, j, l] => !Nat.beq i j && (!Nat.beq i l && !Nat.beq j l)
  | _ => false
def seqL : List Str → List Expr → Bool
  | [], [] => true
  | x :: xs, .Name y _ :: es => seqS x y && seqL xs es
  | _, _ => false
def swNames (ts vs : List Expr) (sc : Scope) : Bool := match swB ts vs sc with
  | some (some ns) => seqL ns ts
  | _ => false
section
variable (T : Tb) (N : List Str)
def matchSL (f : Sx → Stmt → Bool) : List Sx → List Stmt → Bool
  | [], [] => true
  | s :: ss, t :: ts => f s t && matchSL f ss ts
  | _, _ => false
def matchS : Nat → Scope → Sx → Stmt → Bool
  | 0, _, _, _ => false
  | m + 1, sc, s, st => match s with
    | .asg t e => match st with
      | .Assign tgs e' _ => (match tgs with
        | [tg] => (plainAsg sc tg e' && (matchTg N sc t tg && matchE T N m sc e e')) || (setLc N sc t e tg e' && matchE T N m sc e e')
        | _ => false)
      | _ => false
    | .par is es => match st with
      | .Assign tgs e' _ => (match tgs, e' with
        | [.Tuple ts _ _], .Tuple vs _ _ => swNames ts vs sc && (dist2 is && (locsAt N sc is ts && (Nat.beq vs.length is.length && matchL (matchE T N m sc) es vs)))
        | _, _ => false)
      | _ => false
    | .aug i o e => match st with
      | .AugAssign (.Name x _) o' e' _ => slotIs N i x && (isLoc sc x && (opEq o o' && matchE T N m sc e e'))
      | _ => false
    | .exp e => match st with
      | .Expr e' _ => !isComp e' && matchE T N m sc e e'
      | _ => false
    | .ret e => match st with
      | .Return (some e') _ => matchE T N m sc e e'
      | _ => false
    | .retn => match st with
      | .Return none _ => true
      | _ => false
    | .ife c a b => match st with
      | .If c' a' b' _ => matchE T N m sc c c' && (matchSL (matchS m sc) a a' && matchSL (matchS m sc) b b')
      | _ => false
    | .whl c b => match st with
      | .While c' b' els _ => els.isEmpty && (matchE T N m sc c c' && matchSL (matchS m sc) b b')
      | _ => false
    | .for_ t k it b => match st with
      | .For tg iter b' els _ => els.isEmpty && (matchTg N sc t tg && (matchW T N m sc k it iter && matchSL (matchS m sc) b b'))
      | _ => false
    | .rais _ _ => false
    | .pas => match st with
      | .Pass _ => true
      | _ => false
    | .brk => match st with
      | .Break _ => true
      | _ => false
    | .cnt => match st with
      | .Continue _ => true
      | _ => false
    | .bad => true
end
/-- the place of a statement -/
structure OkS (Γ : Gm) (T : Tb) (N : List Str) (j : Nat) (X : Cx) (sc : Scope) (W : WX) : Prop extends OkX Γ T N j X sc W where
  po : PassesOwn (model X.prog X.w) X.A X.env X.xe
  fn : ∀ x, X.fn x = true
section
variable {Γ : Gm} {T : Tb} {c : Callee} {j : Nat} {N : List Str} {X : Cx} {sc : Scope} {W : WX}
theorem locAt_ok {i : Nat} {e : Expr} (h : locAt N sc i e = true) : ∃ y p, e = .Name y p ∧ N[i]? = some y ∧ sc.names.lookup y = some .local := by
  cases e <;> first | (cases h; done) | skip
  rename_i y p
  obtain ⟨h1, h2⟩ := ba h
  exact ⟨y, p, rfl, slotIs_ok h1, isLcl_ok h2⟩
theorem visAt_ok {i : Nat} {e : Expr} (h : visAt N sc i e = true) : ∃ y p, e = .Name y p ∧ N[i]? = some y ∧ L2.Loc sc y := by
  cases e <;> first | (cases h; done) | skip
  rename_i y p
  obtain ⟨h1, h2⟩ := ba h
  exact ⟨y, p, rfl, slotIs_ok h1, isLoc_ok h2⟩
theorem vissAt_ok (ok : OkS Γ T N j X sc W) : ∀ {is : List Nat} {es : List Expr}, vissAt N sc is es = true → Nms X es is
  | [], [], _ => .nil
  | i :: is, e :: es, h => by
    simp only [vissAt] at h
    obtain ⟨h1, h2⟩ := ba h
    obtain ⟨y, p, rfl, e1, e2⟩ := visAt_ok h1
    exact .cons (by rw [ok.N]; exact e1) (by rw [ok.sc]; exact e2) (.inl (ok.fn y)) (vissAt_ok ok h2)
  | [], _ :: _, h => by simp [vissAt] at h
  | _ :: _, [], h => by simp [vissAt] at h
theorem tg_ok (ok : OkS Γ T N j X sc W) {t : Tg} {e : Expr} (h : matchTg N sc t e = true) : PG X e (TGo Γ W (putTg t)) := by
  cases t with
  | nm i =>
    obtain ⟨y, p, rfl, e1, e2⟩ := visAt_ok h
    exact g_name ok.nd (by rw [ok.N]; exact e1) (by rw [ok.sc]; exact e2) (.inl (ok.fn y))
  | tup is =>
    cases e <;> first | (cases h; done) | skip
    exact g_tup ok.K ok.calm ok.nd (vissAt_ok ok h)
  | star is i => cases h
theorem each1 {e : Expr} {t : Tg} (h : matchTg N sc t e = true) (env : Env) : (assignEach [e] env).map (·.2) = [assign e env] := by
  cases t with
  | nm i =>
    cases e <;> first | rfl | cases h
  | tup is =>
    cases e <;> first | rfl | cases h
  | star is i => cases h
theorem nb {a b : Nat} (h : (!Nat.beq a b) = true) : a ≠ b := by
  cases z : Nat.beq a b with
  | true => rw [z] at h; cases h
  | false => exact beq_f z
theorem matchSL_ok {f : Sx → Stmt → Bool} (hf : ∀ s st, f s st = true → PS X st (TSo Γ W (denS (Gof T) c s))) : ∀ {ss : List Sx} {sts : List Stmt}, matchSL f ss sts = true → PSs X sts (TSo Γ W (denSs (Gof T) c ss))
  | [], [], _ => ss_nil
  | s :: ss, t :: ts, h => by
    simp only [matchSL] at h
    obtain ⟨h1, h2⟩ := ba h
    exact ss_cons (hf s t h1) (matchSL_ok hf h2)
  | [], _ :: _, h => by simp [matchSL] at h
  | _ :: _, [], h => by simp [matchSL] at h
theorem snd_s (G : GloOk Γ T) (C : CalOk Γ T j c) (ok : OkS Γ T N j X sc W) : ∀ (m : Nat) (s : Sx) (st : Stmt), matchS T N m sc s st = true → PS X st (TSo Γ W (denS (Gof T) c s)) := by
  intro m
  induction m with
  | zero => intro s st h; cases h
  | succ m ih =>
    intro s st h
    have okx := ok.toOkX
    have isub : ∀ ir e, matchE T N m sc ir e = true → PE X e (TEo Γ W (den (Gof T) c ir).e) ∧ PT X e (TTo Γ W (den (Gof T) c ir).t) := fun ir e => snd_e G C m X sc W ir e okx
    have lst : ∀ {irs : List Ex} {es : List Expr}, matchL (matchE T N m sc) irs es = true → Dns X Γ W es (dens (Gof T) c irs) := fun h => matchL_ok isub h
    cases s with
    | asg t e =>
      cases st <;> first | (cases h; done) | skip
      rename_i tgs e' pos
      match tgs, h with
      | [], h => simp [matchS] at h
      | _ :: _ :: _, h => simp [matchS] at h
      | [tg], h =>
        simp only [matchS] at h
        rcases Bool.or_eq_true_iff.mp h with h | h
        · obtain ⟨h1, h⟩ := ba h
          obtain ⟨h2, h3⟩ := ba h
          rw [← ok.sc] at h1
          exact s_asg (isub e e' h3).1 (tg_ok ok h2) (plain_sole h1) (plain_sw h1) (each1 h2 _)
        · obtain ⟨h1, h3⟩ := ba h
          obtain ⟨i, el, tgn, k, it, cs, y, py, elt, gs, scope, lpos, rfl, rfl, rfl, rfl, h1⟩ : ∃ i el tgn k it cs y py elt gs scope lpos, t = .nm i ∧ e = .lc el tgn k it cs ∧ tg = .Name y py ∧ e' = .ListComp elt gs scope lpos ∧ (slotIs N i y && (isLcl sc y && (decide (sc.kind = .function) && ((py.line == lpos.line) && !(scope.names.any fun (n, k) => n == y && (k == .local || k == .cell)))))) = true := by
            unfold setLc at h1
            split at h1
            · exact ⟨_, _, _, _, _, _, _, _, _, _, _, _, rfl, rfl, rfl, rfl, h1⟩
            · cases h1
          · obtain ⟨g1, h1⟩ := ba h1
            obtain ⟨g2, h1⟩ := ba h1
            obtain ⟨g3, h1⟩ := ba h1
            obtain ⟨g4, g5⟩ := ba h1
            cases m with
            | zero => cases h3
            | succ m =>
              obtain ⟨q, rfl, p⟩ := lc_parts (c := c) G okx (fun X sc W ir e ok => snd_e G C m X sc W ir e ok) h3
              have k3 : X.env.scope.kind = .function := by rw [ok.sc]; exact of_decide_eq_true g3
              have e3 : X.env.scope.names.lookup y = some .local := by rw [ok.sc]; exact isLcl_ok g2
              refine s_setLc ok.calm ok.nd (by rw [ok.N]; exact slotIs_ok g1) e3 (sw_true k3 e3 g4 ?_) p
              cases z : (scope.names.any fun (n, k) => n == y && (k == .local || k == .cell)) with
              | false => rfl
              | true => rw [z] at g5; cases g5
    | par is es =>
      cases st <;> first | (cases h; done) | skip
      rename_i tgs e' pos
      obtain ⟨ts, k, p, vs, k2, p2, rfl, rfl, h⟩ : ∃ ts k p vs k2 p2, tgs = [.Tuple ts k p] ∧ e' = .Tuple vs k2 p2 ∧ (swNames ts vs sc && (dist2 is && (locsAt N sc is ts && (Nat.beq vs.length is.length && matchL (matchE T N m sc) es vs)))) = true := by
        simp only [matchS] at h
        split at h
        · exact ⟨_, _, _, _, _, _, rfl, rfl, h⟩
        · cases h
      obtain ⟨h1, h⟩ := ba h
      obtain ⟨h2, h⟩ := ba h
      obtain ⟨h3, h⟩ := ba h
      obtain ⟨h4, h5⟩ := ba h
      have hd := lst h5
      have hl := beq_t h4
      have hsw : ∃ ns, swB ts vs X.env.scope = some (some ns) ∧ seqL ns ts = true := by
        rw [ok.sc]
        unfold swNames at h1
        split at h1
        · rename_i ns z
          exact ⟨ns, z, h1⟩
        · cases h1
      obtain ⟨ns, z1, z2⟩ := hsw
      have hw := swB_ok (k := k) (p := p) (k2 := k2) (p2 := p2) z1
      match is, ts, vs, h2, h3, hl, hd, hw, z2 with
      | [i, j'], [a, b], [u, v], h2, h3, _, hd, hw, z2 =>
        simp only [locsAt] at h3
        obtain ⟨h3, h3b⟩ := ba h3
        obtain ⟨h3b, _⟩ := ba h3b
        obtain ⟨y1, q1, rfl, e1, e2⟩ := locAt_ok h3
        obtain ⟨y2, q2, rfl, e3, e4⟩ := locAt_ok h3b
        match ns, z2, hw with
        | [n1, n2], z2, hw =>
          simp only [seqL] at z2
          obtain ⟨z3, z2⟩ := ba z2
          obtain ⟨z4, _⟩ := ba z2
          cases seqS_eq z3
          cases seqS_eq z4
          exact s_par2 ok.calm ok.nd (by rw [ok.N]; exact e1) (by rw [ok.N]; exact e3) (nb h2) (by rw [ok.sc]; exact e2) (by rw [ok.sc]; exact e4) hd hw
        | [], z2, _ => simp [seqL] at z2
        | [_], z2, _ => simp [seqL] at z2
        | _ :: _ :: _ :: _, z2, _ => simp [seqL] at z2
      | [i, j', l], [a, b, d], [u, v, w], h2, h3, _, hd, hw, z2 =>
        simp only [locsAt] at h3
        obtain ⟨h3, h3b⟩ := ba h3
        obtain ⟨h3b, h3c⟩ := ba h3b
        obtain ⟨h3c, _⟩ := ba h3c
        obtain ⟨y1, q1, rfl, e1, e2⟩ := locAt_ok h3
        obtain ⟨y2, q2, rfl, e3, e4⟩ := locAt_ok h3b
        obtain ⟨y3, q3, rfl, e5, e6⟩ := locAt_ok h3c
        obtain ⟨d1, h2⟩ := ba h2
        obtain ⟨d2, d3⟩ := ba h2
        match ns, z2, hw with
        | [n1, n2, n3], z2, hw =>
          simp only [seqL] at z2
          obtain ⟨z3, z2⟩ := ba z2
          obtain ⟨z4, z2⟩ := ba z2
          obtain ⟨z5, _⟩ := ba z2
          cases seqS_eq z3
          cases seqS_eq z4
          cases seqS_eq z5
          exact s_par3 ok.calm ok.nd (by rw [ok.N]; exact e1) (by rw [ok.N]; exact e3) (by rw [ok.N]; exact e5) (nb d1) (nb d2) (nb d3) (by rw [ok.sc]; exact e2) (by rw [ok.sc]; exact e4) (by rw [ok.sc]; exact e6) hd hw
        | [], z2, _ => simp [seqL] at z2
        | [_], z2, _ => simp [seqL] at z2
        | [_, _], z2, _ => simp [seqL] at z2
        | _ :: _ :: _ :: _ :: _, z2, _ => simp [seqL] at z2
      | [], _, _, h2, _, _, _, _, _ => cases h2
      | [_], _, _, h2, _, _, _, _, _ => cases h2
      | _ :: _ :: _ :: _ :: _, _, _, h2, _, _, _, _, _ => cases h2
      | [_, _], [], _, _, h3, _, _, _, _ => simp [locsAt] at h3
      | [_, _], [_], _, _, h3, _, _, _, _ => simp [locsAt] at h3
      | [_, _], _ :: _ :: _ :: _, _, _, h3, _, _, _, _ => simp [locsAt] at h3
      | [_, _], [_, _], [], _, _, hl, _, _, _ => simp at hl
      | [_, _], [_, _], [_], _, _, hl, _, _, _ => simp at hl
      | [_, _], [_, _], _ :: _ :: _ :: _, _, _, hl, _, _, _ => simp at hl
      | [_, _, _], [], _, _, h3, _, _, _, _ => simp [locsAt] at h3
      | [_, _, _], [_], _, _, h3, _, _, _, _ => simp [locsAt] at h3
      | [_, _, _], [_, _], _, _, h3, _, _, _, _ => simp [locsAt] at h3
      | [_, _, _], _ :: _ :: _ :: _ :: _, _, _, h3, _, _, _, _ => simp [locsAt] at h3
      | [_, _, _], [_, _, _], [], _, _, hl, _, _, _ => simp at hl
      | [_, _, _], [_, _, _], [_], _, _, hl, _, _, _ => simp at hl
      | [_, _, _], [_, _, _], [_, _], _, _, hl, _, _, _ => simp at hl
      | [_, _, _], [_, _, _], _ :: _ :: _ :: _ :: _, _, _, hl, _, _, _ => simp at hl
    | aug i o e =>
      cases st <;> first | (cases h; done) | skip
      rename_i tg o' e' pos
      cases tg <;> first | (cases h; done) | skip
      rename_i x p
      simp only [matchS] at h
      obtain ⟨h1, h⟩ := ba h
      obtain ⟨h2, h⟩ := ba h
      obtain ⟨h3, h4⟩ := ba h
      have eo := opEq_ok h3
      subst eo
      exact s_aug ok.nd (by rw [ok.N]; exact slotIs_ok h1) (by rw [ok.sc]; exact isLoc_ok h2) (isub e e' h4).1 (.inl (ok.fn x))
    | exp e =>
      cases st <;> first | (cases h; done) | skip
      rename_i e' pos
      simp only [matchS] at h
      obtain ⟨h1, h2⟩ := ba h
      exact s_exp (isub e e' h2).1 (noComp_exp h1)
    | ret e =>
      cases st <;> first | (cases h; done) | skip
      rename_i o pos
      cases o with
      | none => cases h
      | some e' => exact s_ret (isub e e' h).1
    | retn =>
      cases st <;> first | (cases h; done) | skip
      rename_i o pos
      cases o with
      | none => exact s_retN
      | some e' => cases h
    | ife cc a b =>
      cases st <;> first | (cases h; done) | skip
      rename_i c' a' b' pos
      simp only [matchS] at h
      obtain ⟨h1, h⟩ := ba h
      obtain ⟨h2, h3⟩ := ba h
      exact s_ife (isub cc c' h1).2 (matchSL_ok ih h2) (matchSL_ok ih h3)
    | whl cc b =>
      cases st <;> first | (cases h; done) | skip
      rename_i c' b' els pos
      simp only [matchS] at h
      obtain ⟨h0, h⟩ := ba h
      obtain ⟨h1, h2⟩ := ba h
      cases els with
      | cons _ _ => cases h0
      | nil => exact s_whl ok.po (isub cc c' h1).2 (matchSL_ok ih h2) LOOPS
    | for_ t k it b =>
      cases st <;> first | (cases h; done) | skip
      rename_i tg iter b' els pos
      simp only [matchS] at h
      obtain ⟨h0, h⟩ := ba h
      obtain ⟨h1, h⟩ := ba h
      obtain ⟨h2, h3⟩ := ba h
      cases els with
      | cons _ _ => cases h0
      | nil =>
        obtain ⟨w1, w2⟩ := walk_ok (c := c) (tg := tg) G okx isub h2
        exact s_for ok.po ok.calm w1 (tg_ok ok h1) (matchSL_ok ih h3) w2
    | rais _ _ => cases h
    | pas =>
      cases st <;> first | (cases h; done) | skip
      exact s_pass
    | brk =>
      cases st <;> first | (cases h; done) | skip
      exact s_brk
    | cnt =>
      cases st <;> first | (cases h; done) | skip
      exact s_cnt
    | bad => exact s_bad
end
end VI

end
section
/-! VO: defs of the text do what their trees say, by the depth of calls. Own work. -/
namespace VI
open PySem PySem.Spec PyProof.Rows L2

theorem start_ok {Γ : Gm} {ι : Nat → Addr} {sz : Nat} {H : Hp} {ws : List VV} {vs : List V} (N : List Str) (r : RVs Γ ι sz H ws vs) : RSl Γ ι sz H (startV N.length ws) (L2.start N vs) := by
  have hl := r.length
  unfold startV L2.start
  refine ⟨by simp [hl], fun i v e => ?_⟩
  by_cases hi : i < ws.length
  · rw [List.getElem?_append_left (by simpa using hi), List.getElem?_map] at e
    cases z : ws[i]? with
    | none => rw [z] at e; cases e
    | some w =>
      rw [z] at e
      have e2 : w = v := by simpa using e
      subst e2
      obtain ⟨x, e3, e4⟩ := r.get z
      refine ⟨x, ?_, e4⟩
      rw [List.getElem?_append_left (by simp; omega), List.getElem?_map, e3]
      rfl
  · rw [List.getElem?_append_right (by simpa using hi), List.getElem?_replicate] at e
    split at e <;> cases e
/-- a def of the text -/
structure RowOk (Γ : Gm) (T : Tb) (F : Nat → Option FnI) (f : Nat) (x : Str) (np : Nat) : Prop where
  ex : ∃ (qual : Str) (params : Arguments) (body : List Stmt) (scope : Scope) (dvs : List V) (kws : List (Str × V)) (fd : FuncData) (ps N : List Str) (ir : List Sx) (m : Nat),
    FunD Γ.K x qual params body scope dvs kws (Γ.fa f) fd ∧ FnScope N ps scope ∧ ps.length = np ∧ F f = some (.ir np N.length ir) ∧ matchSL (matchS T N m scope) ir body = true ∧ Γ.mg x = some (.ref (Γ.fa f)) ∧
    (T.dfl.lookup f = none → Binds Γ.K fd ps []) ∧ (∀ ds, T.dfl.lookup f = some ds → ∃ dvs dus, Binds Γ.K fd ps dus ∧ Vals dvs dus ∧ ∀ ι sz H, RVs Γ ι sz H ds dvs) ∧
    (∀ kn, T.kws.lookup f = some kn → ∀ n, n + 1 = np → KBn Γ.K fd ps n [kn] (fun us ws => us ++ ws) (fun vs zs => vs ++ zs))
theorem fin_ok {Γ : Gm} {ι : Nat → Addr} {h : Hv} {H : Hp} {E : XK} {Q : VK} {r : RS} (q : PostE Γ ι h H E Q (finish r)) : PostS Γ (fun cls d _ H => E cls d H) ι h H { nx := fun _ H' => Q .non H', rt := Q } r := by
  cases r with
  | nx σv h1 => exact fun ι' σ' H' st rh rs => q ι' .non H' st rh .non
  | rt v h1 => exact q
  | bk σv h1 => exact q.elim
  | ct σv h1 => exact q.elim
  | exc σv c p h1 => exact fun ι' σ' cls d H' st rh rs x => q ι' cls d H' st rh x
  | fail => exact q
theorem fn_ok {Γ : Gm} {T : Tb} {F : Nat → Option FnI} (G : GloOk Γ T) {d f np m : Nat} {x qual : Str} {params : Arguments} {body : List Stmt} {scope : Scope} {dvs : List V} {kws : List (Str × V)} {fd : FuncData} {ps N : List Str} {ir : List Sx}
    (D : FunD Γ.K x qual params body scope dvs kws (Γ.fa f) fd) (S : FnScope N ps scope) (l1 : ps.length = np) (eF : F f = some (.ir np N.length ir)) (hm : matchSL (matchS T N m scope) ir body = true) (ih : CalOk Γ T d (run (Gof T) F d)) :
    FnOk Γ.P Γ.w Γ.K Γ.mg Γ.base (L2N.CX Γ.P Γ.w) (d + 1) (Γ.fa f) fd ps (spV Γ np (run (Gof T) F (d + 1) f)) ∧ ∀ ws h, run (Gof T) F (d + 1) f ws h = .fail ∨ ws.length = np := by
  have er : ∀ ws h, run (Gof T) F (d + 1) f ws h = match Nat.beq ws.length np with
      | true => finish (denSs (Gof T) (run (Gof T) F d) ir (startV N.length ws) h)
      | false => .fail := fun ws h => by
    show (match F f with
      | some (.ir np ns body) => _
      | some (.nv np g) => _
      | none => _) = _
    rw [eF] <;> rfl
  refine ⟨?_, fun ws h => ?_⟩
  · refine D.ok S (fun vs H Q E ⟨ι, h, ws, _, rv, l2, q⟩ => by rw [← rv.length, l2, l1]) fun cdv A outer s H vs Q E hr ⟨ι, h, ws, rh, rv, l2, q⟩ => ?_
    have ok : OkS Γ T N d (cxOf (L2N.CX Γ.P Γ.w) Γ.P Γ.w Γ.K Γ.mg Γ.base N qual scope (Γ.fa f) cdv A outer s H E) scope (fun cls d _ H => E cls d H) :=
      { P := rfl, w := rfl, K := rfl, mg := rfl, base := rfl, calm := rfl, room := hr, tk := L2N.takes_of rfl rfl rfl rfl, nd := S.nd, N := rfl, sc := rfl, po := PassesOwn.leaving, fn := fun _ => rfl }
    refine ⟨_, matchSL_ok (fun s st h => snd_s G ih ok m s st h) hm, ι, startV N.length ws, h, start_ok N rv, rh, ?_⟩
    have q : PostE Γ ι h H E Q (run (Gof T) F (d + 1) f ws h) := q
    rw [er, l2, Nat.beq_refl] at q
    exact fin_ok q
  · rw [er]
    cases z : Nat.beq ws.length np with
    | true => exact .inr (beq_t z)
    | false => exact .inl rfl
theorem cal_ok {Γ : Gm} {T : Tb} {F : Nat → Option FnI} (G : GloOk Γ T) (hF : ∀ f x np, T.fns[f]? = some (x, np) → RowOk Γ T F f x np) : ∀ d, CalOk Γ T d (run (Gof T) F d) := by
  intro d
  induction d with
  | zero =>
    refine ⟨fun f x np e => ?_⟩
    obtain ⟨qual, params, body, scope, dvs, kws, fd, ps, N, ir, m, D, S, l1, eF, hm, mg, b1, b2, b3⟩ := (hF f x np e).ex
    refine ⟨fd, ps, ?_, mg, D.kp, fun ws h => .inl rfl, b1, b2, b3⟩
    refine ⟨fun vs H Q E ⟨ι, h, ws, _, _, _, q⟩ => q.elim, fun A outer s H args us vs Q E hr e0 hb r ⟨ι, h, ws, _, _, _, q⟩ => q.elim⟩
  | succ d ih =>
    refine ⟨fun f x np e => ?_⟩
    obtain ⟨qual, params, body, scope, dvs, kws, fd, ps, N, ir, m, D, S, l1, eF, hm, mg, b1, b2, b3⟩ := (hF f x np e).ex
    obtain ⟨r1, r2⟩ := fn_ok G D S l1 eF hm ih
    exact ⟨fd, ps, r1, mg, D.kp, r2, b1, b2, b3⟩
end VI

end
section
/-! VP: the end: the law's def at every script. Own work. -/
namespace VI
open PySem PySem.Spec PyProof.Rows L2

/-- exceptions of some program, some world -/
def CXA : CXT := fun outer H s E e s' => ∃ P w, L2N.CX P w outer H s E e s'
theorem toA {P : Program} {w : World} {K : PySem.W.Frag} {mg : Str → Option Value} {base : Heap} {k : Nat} {f : Addr} {fd : FuncData} {ps : List Str} {sp : Sp} (F : FnOk P w K mg base (L2N.CX P w) k f fd ps sp) : FnOk P w K mg base CXA k f fd ps sp :=
  ⟨F.len, fun A outer s H args us vs Q E hr he hb hv hs => codeAny_mono (F.run A outer s H args us vs Q E hr he hb hv hs) fun r s' q => by
    cases r with
    | error e => exact ⟨P, w, q⟩
    | ok fl => cases fl <;> exact q⟩
theorem cxa_no (H : Hp) (s : Shared) (e : Value) (s' : Shared) (h : CXA [] H s (fun _ _ _ => False) e s') : False := by
  obtain ⟨P, w, a, B, H', cls, d, _, _, _, _, _, _, _, q⟩ := h
  exact q
/-- nothing that K holds is a list -/
def isListO (o : Obj) : Bool := match o.cls with
  | .type c => decide (c = "list")
  | _ => false
def noLst (K : PySem.W.Frag) : Bool := K.all fun p => !isListO p.2
theorem mem_lookup {a : Addr} {o : Obj} : ∀ {K : PySem.W.Frag}, K.lookup a = some o → (a, o) ∈ K
  | [], e => by cases e
  | (b, p) :: K, e => by
    rw [List.lookup_cons] at e
    cases q : (a == b) with
    | true =>
      rw [q] at e
      cases e
      rw [beq_iff_eq.mp q]
      exact List.mem_cons_self ..
    | false =>
      rw [q] at e
      exact List.mem_cons_of_mem _ (mem_lookup e)
theorem noLst_ok {K : PySem.W.Frag} (h : noLst K = true) {H : Hp} {a : Addr} {xs : List V} (hO : Only H) (q : SqL K H a xs) : ∃ o, H a = some (.frz o (.lst xs)) := by
  rcases q with (q | ⟨o, q⟩) | ⟨o, its, n, q, ho, _⟩
  · rcases hO a with z | ⟨o, ys, z⟩
    · rw [q] at z; cases z
    · rw [q] at z; cases z
  · exact ⟨o, q⟩
  · have m : (a, o) ∈ K := mem_lookup q
    have z := List.all_eq_true.mp h _ m
    have z : (!isListO o) = true := z
    unfold isListO at z
    rw [ho] at z
    simp at z
def hv0 (ns : List Int) : Hv := Hv.empty.new (.frz (ns.map VV.int))
theorem ints_rv {Γ : Gm} {ι : Nat → Addr} {sz : Nat} {H : Hp} : ∀ ns : List Int, RVs Γ ι sz H (ns.map VV.int) (ns.map V.int)
  | [] => .nil
  | n :: ns => .cons (.int n) (ints_rv ns)
theorem law_sp {Γ : Gm} {g : List VV → Hv → R VV} {H : Hp} {a : Addr} {ns : List Int} (hK : noLst Γ.K = true) (hO : Only H) (q : SqL Γ.K H a (ns.map V.int)) (hg : ∃ h1, g [.ref 0] (hv0 ns) = .ok (.bl true) h1) :
    spV Γ 1 g [.ref a] H (fun v _ => v = .bl true) fun _ _ _ => False := by
  obtain ⟨o, ho⟩ := noLst_ok hK hO q
  obtain ⟨h1, hg⟩ := hg
  have e0 : (hv0 ns).get 0 = some (.frz (ns.map VV.int)) := by
    unfold hv0
    rw [Hv.get_new]
    rfl
  refine ⟨fun _ => a, hv0 ns, [.ref 0], ⟨fun n o' e => ?_, fun m n hm hn _ => ?_, fun n hn => ?_⟩, .cons (.ref 0 (by show 0 < 0 + 1; omega)) .nil, rfl, ?_⟩
  · have hn : n < 0 + 1 := Hv.get_lt e
    have hn : n = 0 := by omega
    subst hn
    rw [e0] at e
    cases e
    exact ⟨_, ho, .frz o (ints_rv ns)⟩
  · have hm : m < 0 + 1 := hm
    have hn : n < 0 + 1 := hn
    omega
  · have hn : n < 0 + 1 := hn
    have hn : n = 0 := by omega
    subst hn
    exact ⟨_, e0⟩
  · show PostE Γ _ _ _ _ _ (g [.ref 0] (hv0 ns))
    rw [hg]
    intro ι' x H' st rh rv
    have rv : RV Γ ι' h1.n H' (.bl true) x := rv
    cases rv
    rfl
end VI

end
section
/-! VQ: what a tree does, told for rewriting (applied forms only). Own work. -/
namespace VI.Q
section
variable (G : Nat → Option VV) (c : Callee) (σ : Sl) (h : Hv)
theorem ss0 : denSs G c [] σ h = .nx σ h := rfl
theorem ss1 (s : Sx) (ss : List Sx) : denSs G c (s :: ss) σ h = (denS G c s σ h).seq (denSs G c ss) := rfl
theorem sasg (t : Tg) (e : Ex) : denS G c (.asg t e) σ h = ((den G c e).e σ h).toS σ fun v h1 => (putTg t v σ h1).toS σ fun σ2 h2 => .nx σ2 h2 := rfl
theorem spar (is : List Nat) (es : List Ex) : denS G c (.par is es) σ h = (Den.list (dens G c es) σ h).toS σ fun vs h1 => (lift h1 (tgNames is vs σ)).toS σ fun σ2 h2 => .nx σ2 h2 := rfl
theorem saug (i : Nat) (o : BOp) (e : Ex) : denS G c (.aug i o e) σ h = (getv σ i h).toS σ fun x h1 => ((den G c e).e σ h1).toS σ fun y h2 => (R.of (augop o x y h2)).toS σ fun v h3 => .nx (setSl σ i v) h3 := rfl
theorem sexp (e : Ex) : denS G c (.exp e) σ h = ((den G c e).e σ h).toS σ fun _ h1 => .nx σ h1 := rfl
theorem sret (e : Ex) : denS G c (.ret e) σ h = ((den G c e).e σ h).toS σ fun v h1 => .rt v h1 := rfl
theorem sretn : denS G c .retn σ h = .rt .non h := rfl
theorem sbad : denS G c .bad σ h = .fail := rfl
def ifS (b : Bool) (x y : RS) : RS := match b with
  | true => x
  | false => y
theorem ifS_t (x y : RS) : ifS true x y = x := rfl
theorem ifS_f (x y : RS) : ifS false x y = y := rfl
def ifR {α : Type} (b : Bool) (x y : R α) : R α := match b with
  | true => x
  | false => y
theorem ifR_t {α : Type} (x y : R α) : ifR true x y = x := rfl
theorem ifR_f {α : Type} (x y : R α) : ifR false x y = y := rfl
theorem sife (e : Ex) (a b : List Sx) : denS G c (.ife e a b) σ h = ((den G c e).t σ h).toS σ fun q h1 => ifS q (denSs G c a σ h1) (denSs G c b σ h1) := rfl
theorem sfor (t : Tg) (k : ItK) (it : List Ex) (b : List Sx) : denS G c (.for_ t k it b) σ h = sFor t k (dens G c it) (denSs G c b) σ h := rfl
def doWk (w : Wk) (t : Tg) (f : DenS) (σ : Sl) (h : Hv) : RS := match w with
  | .fix xs => forFix t f xs σ h
  | .live n len => forLive t f n len len σ h
theorem sfor1 (t : Tg) (k : ItK) (it : List Ex) (b : List Sx) : denS G c (.for_ t k it b) σ h = (Den.list (dens G c it) σ h).toS σ fun vs h1 => (R.of (walk k vs h1)).toS σ fun w h2 => doWk w t (denSs G c b) σ h2 := rfl
theorem wk_fix (xs : List VV) (t : Tg) (f : DenS) : doWk (.fix xs) t f σ h = forFix t f xs σ h := rfl
theorem wk_live (n len : Nat) (t : Tg) (f : DenS) : doWk (.live n len) t f σ h = forLive t f n len len σ h := rfl
theorem swhl (e : Ex) (b : List Sx) : denS G c (.whl e b) σ h = whlL (den G c e) (denSs G c b) LOOPS σ h := rfl
theorem l0 : Den.list [] σ h = .ok [] h := rfl
theorem l1 (d : Den) (ds : List Den) : Den.list (d :: ds) σ h = (d.e σ h).bind fun v h1 => (Den.list ds σ h1).bind fun vs h2 => .ok (v :: vs) h2 := rfl
theorem dn0 : dens G c [] = [] := rfl
theorem dn1 (e : Ex) (es : List Ex) : dens G c (e :: es) = den G c e :: dens G c es := rfl
theorem con (v : VV) : (den G c (.con v)).e σ h = .ok v h := rfl
theorem var (i : Nat) : (den G c (.var i)).e σ h = getv σ i h := rfl
theorem glo (g : Nat) : (den G c (.glo g)).e σ h = lift h (G g) := rfl
theorem bin (o : BOp) (a b : Ex) : (den G c (.bin o a b)).e σ h = ((den G c a).e σ h).bind fun x h1 => ((den G c b).e σ h1).bind fun y h2 => .of (binop o x y h2) := rfl
def negV (v : VV) (h : Hv) : R VV := match v with
  | .int i => .ok (.int (-i)) h
  | _ => .fail
theorem negV_int (i : Int) : negV (.int i) h = .ok (.int (-i)) h := rfl
theorem neg (a : Ex) : (den G c (.neg a)).e σ h = ((den G c a).e σ h).bind negV := rfl
theorem nt (a : Ex) : (den G c (.nt a)).e σ h = ((den G c a).e σ h).bind fun v h1 => (lift h1 (truth v h1)).bind fun b h2 => .ok (.bl (!b)) h2 := rfl
theorem ntT (a : Ex) : (den G c (.nt a)).t σ h = ((den G c a).t σ h).bind fun b h1 => .ok (!b) h1 := rfl
theorem andE (es : List Ex) : (den G c (.and_ es)).e σ h = andV (dens G c es) σ h := rfl
theorem orE (es : List Ex) : (den G c (.or_ es)).e σ h = orV (dens G c es) σ h := rfl
theorem andTt (es : List Ex) : (den G c (.and_ es)).t σ h = andT (dens G c es) σ h := rfl
theorem orTt (es : List Ex) : (den G c (.or_ es)).t σ h = orT (dens G c es) σ h := rfl
theorem andV1 (d : Den) : andV [d] σ h = d.e σ h := rfl
theorem andV2 (d e : Den) (ds : List Den) : andV (d :: e :: ds) σ h = (d.e σ h).bind fun v h1 => (lift h1 (truth v h1)).bind fun b h2 => ifR b (andV (e :: ds) σ h2) (.ok v h2) := rfl
theorem orV1 (d : Den) : orV [d] σ h = d.e σ h := rfl
theorem orV2 (d e : Den) (ds : List Den) : orV (d :: e :: ds) σ h = (d.e σ h).bind fun v h1 => (lift h1 (truth v h1)).bind fun b h2 => ifR b (.ok v h2) (orV (e :: ds) σ h2) := rfl
theorem andT0 : andT [] σ h = .ok true h := rfl
theorem andT1 (d : Den) (ds : List Den) : andT (d :: ds) σ h = (d.t σ h).bind fun b h1 => ifR b (andT ds σ h1) (.ok false h1) := rfl
theorem orT0 : orT [] σ h = .ok false h := rfl
theorem orT1 (d : Den) (ds : List Den) : orT (d :: ds) σ h = (d.t σ h).bind fun b h1 => ifR b (.ok true h1) (orT ds σ h1) := rfl
theorem cmpE (o : COp) (a b : Ex) : (den G c (.cmp o a b)).e σ h = (((den G c a).e σ h).bind fun x h1 => ((den G c b).e σ h1).bind fun y h2 => lift h2 (cmpop o x y h2)).bind fun b h => .ok (.bl b) h := rfl
theorem cmpTt (o : COp) (a b : Ex) : (den G c (.cmp o a b)).t σ h = ((den G c a).e σ h).bind fun x h1 => ((den G c b).e σ h1).bind fun y h2 => lift h2 (cmpop o x y h2) := rfl
theorem chnTt (o p : COp) (a b d : Ex) : (den G c (.chn o p a b d)).t σ h = ((den G c a).e σ h).bind fun x h1 => ((den G c b).e σ h1).bind fun y h2 => (lift h2 (cmpop o x y h2)).bind fun q h3 => ifR q (((den G c d).e σ h3).bind fun z h4 => lift h4 (cmpop p y z h4)) (.ok false h3) := rfl
theorem chnE (o p : COp) (a b d : Ex) : (den G c (.chn o p a b d)).e σ h = ((den G c (.chn o p a b d)).t σ h).bind fun b h => .ok (.bl b) h := rfl
theorem ifeE (q a b : Ex) : (den G c (.ife q a b)).e σ h = ((den G c q).t σ h).bind fun z h1 => ifR z ((den G c a).e σ h1) ((den G c b).e σ h1) := rfl
theorem tup (es : List Ex) : (den G c (.tup es)).e σ h = (Den.list (dens G c es) σ h).bind fun vs h1 => .ok (.tup vs) h1 := rfl
theorem lst (es : List Ex) : (den G c (.lst es)).e σ h = (Den.list (dens G c es) σ h).bind fun vs h1 => .ok (.ref h1.n) (h1.new (.lst vs)) := rfl
theorem call (f : Nat) (es : List Ex) : (den G c (.call f es)).e σ h = (Den.list (dens G c es) σ h).bind fun vs h1 => c f vs h1 := rfl
theorem callT (f : Nat) (es : List Ex) : (den G c (.call f es)).t σ h = ((den G c (.call f es)).e σ h).bind fun v h1 => lift h1 (truth v h1) := rfl
theorem callk (f : Nat) (es : List Ex) (ks : List Nat) (vs : List Ex) : (den G c (.callk f es ks vs)).e σ h = (Den.list (dens G c es) σ h).bind fun vs1 h1 => (Den.list (dens G c vs) σ h1).bind fun ws h2 => c f (vs1 ++ ws) h2 := rfl
theorem bi (b : Bi) (es : List Ex) : (den G c (.bi b es)).e σ h = (Den.list (dens G c es) σ h).bind fun vs h1 => .of (callBi b vs h1) := rfl
theorem biT (b : Bi) (es : List Ex) : (den G c (.bi b es)).t σ h = ((den G c (.bi b es)).e σ h).bind fun v h1 => lift h1 (truth v h1) := rfl
theorem isi (a : Ex) (t : Ty) : (den G c (.isi a t)).e σ h = ((den G c a).e σ h).bind fun x h1 => (lift h1 (isTy h1 x t)).bind fun b h2 => .ok (.bl b) h2 := rfl
theorem isiT (a : Ex) (t : Ty) : (den G c (.isi a t)).t σ h = ((den G c (.isi a t)).e σ h).bind fun v h1 => lift h1 (truth v h1) := rfl
theorem ix (a i : Ex) : (den G c (.ix a i)).e σ h = ((den G c a).e σ h).bind fun x h1 => ((den G c i).e σ h1).bind fun y h2 => .of (item x y h2) := rfl
def bmGo (b : Bm) (x : VV) (ds : List Den) (σ : Sl) (h : Hv) : R VV := ifR (bmTy b x h) ((Den.list ds σ h).bind fun vs h2 => .of (callBm b x vs h2)) .fail
theorem bm (b : Bm) (o : Ex) (es : List Ex) : (den G c (.bm b o es)).e σ h = ((den G c o).e σ h).bind fun x h1 => bmGo b x (dens G c es) σ h1 := by
  show ((den G c o).e σ h).bind _ = _
  congr 1
theorem getv0 (v : VV) (σ : Sl) : getv (some v :: σ) 0 h = .ok v h := rfl
theorem getv1 (x : Option VV) (σ : Sl) (n : Nat) : getv (x :: σ) (n + 1) h = getv σ n h := by
  unfold getv
  simp
theorem set0 (x : Option VV) (σ : Sl) (v : VV) : setSl (x :: σ) 0 v = some v :: σ := rfl
theorem set1 (x : Option VV) (σ : Sl) (n : Nat) (v : VV) : setSl (x :: σ) (n + 1) v = x :: setSl σ n v := rfl
theorem put_nm (i : Nat) (v : VV) : putTg (.nm i) v σ h = .ok (setSl σ i v) h := rfl
theorem put_tup (is : List Nat) (xs : List VV) : putTg (.tup is) (.tup xs) σ h = lift h (tgNames is xs σ) := rfl
theorem tg0 : tgNames [] [] σ = some σ := rfl
theorem tg1 (i : Nat) (is : List Nat) (v : VV) (vs : List VV) : tgNames (i :: is) (v :: vs) σ = tgNames is vs (setSl σ i v) := rfl
theorem fin_nx : finish (.nx σ h) = .ok .non h := rfl
theorem fin_rt (v : VV) : finish (.rt v h) = .ok v h := rfl
theorem lift1 {α : Type} (a : α) : lift h (some a) = .ok a h := rfl
theorem of1 {α : Type} (a : α) : R.of (some (a, h)) = .ok a h := rfl
/-! operations -/
theorem o_add (i j : Int) : binop .add (.int i) (.int j) h = some (.int (i + j), h) := rfl
theorem o_sub (i j : Int) : binop .sub (.int i) (.int j) h = some (.int (i - j), h) := rfl
theorem o_mul (i j : Int) (e : mulOk i j = true) : binop .mul (.int i) (.int j) h = some (.int (i * j), h) := by
  show (match mulOk i j with
    | true => some (VV.int (i * j), h)
    | false => none) = _
  rw [e]
theorem o_fdiv (i j : Int) (e : fdivOk j = true) : binop .fdiv (.int i) (.int j) h = some (.int (i / j), h) := by
  show (match fdivOk j with
    | true => some (VV.int (i / j), h)
    | false => none) = _
  rw [e]
theorem o_mod (i j : Int) (e : posI j = true) : binop .mod (.int i) (.int j) h = some (.int (i % j), h) := by
  show (match posI j with
    | true => some (VV.int (i % j), h)
    | false => none) = _
  rw [e]
theorem o_aadd (i j : Int) : augop .add (.int i) (.int j) h = some (.int (i + j), h) := rfl
theorem o_amul (i j : Int) (e : mulOk i j = true) : augop .mul (.int i) (.int j) h = some (.int (i * j), h) := by
  show (match mulOk i j with
    | true => some (VV.int (i * j), h)
    | false => none) = _
  rw [e]
theorem o_lt (i j : Int) : cmpop .lt (.int i) (.int j) h = some (decide (i < j)) := rfl
theorem o_le (i j : Int) : cmpop .le (.int i) (.int j) h = some (decide (i ≤ j)) := rfl
theorem o_gt (i j : Int) : cmpop .gt (.int i) (.int j) h = some (decide (j < i)) := rfl
theorem o_ge (i j : Int) : cmpop .ge (.int i) (.int j) h = some (decide (j ≤ i)) := rfl
theorem o_eq (i j : Int) : cmpop .eq (.int i) (.int j) h = some (i == j) := rfl
theorem o_ne (i j : Int) : cmpop .ne (.int i) (.int j) h = some (!(i == j)) := rfl
theorem o_eq2 (i j k l : Int) : cmpop .eq (.tup [.int i, .int j]) (.tup [.int k, .int l]) h = some ((i == k) && ((j == l) && true)) := rfl
theorem o_ne2 (i j k l : Int) : cmpop .ne (.tup [.int i, .int j]) (.tup [.int k, .int l]) h = some (!((i == k) && ((j == l) && true))) := rfl
theorem tr_b (b : Bool) : truth (.bl b) h = some b := rfl
theorem tr_i (i : Int) : truth (.int i) h = some (i != 0) := rfl
theorem b_abs (i : Int) : callBi .abs [.int i] h = some (.int i.natAbs, h) := rfl
theorem b_max2 (i j : Int) : callBi .max2 [.int i, .int j] h = some (.int (imax i j), h) := rfl
theorem b_max3 (i j k : Int) : callBi .max3 [.int i, .int j, .int k] h = some (.int (imax (imax i j) k), h) := rfl
theorem b_min2 (i j : Int) : callBi .min2 [.int i, .int j] h = some (.int (imin i j), h) := rfl
theorem b_intb (b : Bool) : callBi .int_ [.bl b] h = some (.int (b2i b), h) := rfl
theorem b_lent (a b : VV) : callBi .len [.tup [a, b]] h = some (.int 2, h) := rfl
theorem b_divmod (i j : Int) (e : fdivOk j = true) : callBi .divmod [.int i, .int j] h = some (.tup [.int (i / j), .int (i % j)], h) := by
  show (match fdivOk j with
    | true => some (VV.tup [.int (i / j), .int (i % j)], h)
    | false => none) = _
  rw [e]
theorem it0 (a b : VV) : item (.tup [a, b]) (.int 0) h = some (a, h) := rfl
theorem it1 (a b : VV) : item (.tup [a, b]) (.int 1) h = some (b, h) := rfl
theorem isI (i : Int) : isTy h (.int i) .int_ = some true := rfl
theorem isB (i : Int) : isTy h (.int i) .bool_ = some false := rfl
theorem isT (xs : List VV) : isTy h (.tup xs) .tup_ = some true := rfl
theorem ap0 (ys : List VV) : ([] : List VV) ++ ys = ys := rfl
theorem ap1 (x : VV) (xs ys : List VV) : (x :: xs) ++ ys = x :: (xs ++ ys) := rfl
theorem whl1 (q : Den) (b : DenS) (k : Nat) : whlL q b (k + 1) σ h = (q.t σ h).toS σ fun z h1 => ifS z (loopR (b σ h1) (whlL q b k)) (.nx σ h1) := by
  show (q.t σ h).toS σ _ = _
  congr 1
  funext z h1
  cases z <;> rfl
theorem put_tupR (is : List Nat) (n : Nat) (xs : List VV) (e : h.get n = some (.lst xs)) : putTg (.tup is) (.ref n) σ h = lift h (tgNames is xs σ) := by
  show (match seqOf h (.ref n) with
    | some xs => lift h (tgNames is xs σ)
    | none => .fail) = _
  have e2 : seqOf h (.ref n) = some xs := by
    show (match h.get n with
      | some (.lst xs) => some xs
      | some (.frz xs) => some xs
      | _ => none) = _
    rw [e]
  rw [e2]
def lcGo (w : Wk) (e : Den) (c : List Den) (tg : Tg) (σ : Sl) (h : Hv) : R (List VV) := match w with
  | .fix xs => (lcFix e c tg σ xs [] h).noX
  | .live n len => (lcLive e c tg σ n len len [] h).noX
theorem lcGo_fix (xs : List VV) (e : Den) (c : List Den) (tg : Tg) : lcGo (.fix xs) e c tg σ h = (lcFix e c tg σ xs [] h).noX := rfl
theorem lc (e : Ex) (tg : List Nat) (k : ItK) (it cs : List Ex) : (den G c (.lc e tg k it cs)).e σ h = (Den.list (dens G c it) σ h).bind fun vs h1 => (R.of (walk k vs h1)).bind fun w h2 => (lcGo w (den G c e) (dens G c cs) (tgOf tg) (wipes σ tg) h2).bind fun ys h3 => .ok (.ref h3.n) (h3.new (.lst ys)) := by
  show (Den.list (dens G c it) σ h).bind _ = _
  congr 1
  try (funext vs h1; congr 1; try (funext w h2; cases w <;> rfl))
theorem lcF0 (e : Den) (cs : List Den) (tg : Tg) (acc : List VV) : lcFix e cs tg σ [] acc h = .ok acc h := rfl
theorem lcF1 (e : Den) (cs : List Den) (tg : Tg) (x : VV) (xs acc : List VV) (la : acc.length < 1000) : lcFix e cs tg σ (x :: xs) acc h = (putTg tg x σ h).bind fun σ1 h1 => (andT cs σ1 h1).bind fun b h2 => ifR b ((e.e σ1 h2).bind fun v h3 => lcFix e cs tg σ xs (acc ++ [v]) h3) (lcFix e cs tg σ xs acc h2) := by
  have z : Nat.blt acc.length LEN = true := Hv.blt_t (Nat.lt_trans la (by decide))
  show (putTg tg x σ h).bind _ = _
  congr 1
  funext σ1 h1
  congr 1
  funext b h2
  cases b
  · rfl
  · show (e.e σ1 h2).bind _ = (e.e σ1 h2).bind _
    congr 1
    funext v h3
    rw [z]
theorem bmApp (ds : List Den) {n : Nat} {xs : List VV} (e : h.get n = some (.lst xs)) : bmGo .append (.ref n) ds σ h = (Den.list ds σ h).bind fun vs h2 => .of (callBm .append (.ref n) vs h2) := by
  have e2 : bmTy .append (.ref n) h = true := by
    show (match h.get n with
      | some (.lst _) => true
      | _ => false) = true
    rw [e]
  unfold bmGo
  rw [e2]
  rfl
theorem app1 {n : Nat} {xs : List VV} (v : VV) (e : h.get n = some (.lst xs)) (la : xs.length < 1000000) : callBm .append (.ref n) [v] h = some (.non, h.put n (.lst (xs ++ [v]))) := by
  show (match h.get n with
    | some (.lst xs) => match Nat.blt xs.length LEN with
      | true => some (VV.non, h.put n (.lst (xs ++ [v])))
      | false => none
    | _ => none) = _
  rw [e]
  show (match Nat.blt xs.length LEN with
      | true => some (VV.non, h.put n (.lst (xs ++ [v])))
      | false => none) = _
  rw [Hv.blt_t (Nat.lt_trans la (by decide))]
theorem o_pow (i : Int) (k : Nat) (hk : k ≤ 1000000) (hi : i.natAbs < 18446744073709551616) : binop .pow (.int i) (.int (k : Int)) h = some (.int (i ^ k), h) := by
  show (match Nat.ble k 1000000 && Nat.blt i.natAbs 18446744073709551616 with
    | true => some (VV.int (i ^ k), h)
    | false => none) = _
  rw [Nat.ble_eq_true_of_le hk, Hv.blt_t hi]
  rfl
theorem noX_ok {α : Type} (a : α) : (R.ok a h).noX = .ok a h := rfl
end
end VI.Q

end
section
set_option maxHeartbeats 0
namespace VI.K39
open PySem
/-- is_whole -/
def b0 : List Sx := [.ret (.and_ [.isi (.var 0) .int_, .nt (.isi (.var 0) .bool_), .chn .le .le (.var 1) (.var 0) (.var 2)])]
/-- is_number -/
def b1 : List Sx := [.ife (.or_ [.nt (.isi (.var 0) .tup_), .cmp .ne (.bi .len [.var 0]) (.con (.int 2))]) [.ret (.con (.bl false))] [], .ret (.and_ [.call 0 [.ix (.var 0) (.con (.int 0)), .bin .sub (.con (.int 1)) (.glo 0), .bin .sub (.glo 0) (.con (.int 1))], .call 0 [.ix (.var 0) (.con (.int 1)), .con (.int 0), .glo 1]])]
/-- need_numbers -/
def b2 : List Sx := [.for_ (.nm 1) .val [.var 0] [.ife (.nt (.call 1 [.var 1])) [.bad] []]]
/-- need_scale -/
def b3 : List Sx := [.ife (.nt (.call 0 [.var 0, .con (.int 0), .glo 2])) [.bad] []]
/-- raise_to -/
def b4 : List Sx := [.asg (.nm 2) (.con (.int 1)), .for_ (.nm 3) .rng [.var 1] [.asg (.nm 2) (.bin .mul (.var 2) (.var 0))], .ret (.var 2)]
/-- ten -/
def b5 : List Sx := [.ret (.call 4 [.con (.int 10), .var 0])]
/-- cut_off -/
def b6 : List Sx := [.ret (.ife (.cmp .ge (.var 0) (.con (.int 0))) (.bin .fdiv (.var 0) (.var 1)) (.bin .sub (.con (.int 0)) (.bin .fdiv (.bin .sub (.con (.int 0)) (.var 0)) (.var 1))))]
/-- fitted -/
def b7 : List Sx := [.ife (.or_ [.cmp .ge (.bi .abs [.var 0]) (.glo 0), .cmp .gt (.var 1) (.glo 1)]) [.bad] [], .ret (.tup [.var 0, .var 1])]
/-- at_scale -/
def b8 : List Sx := [.ife (.cmp .ge (.var 2) (.var 1)) [.ret (.bin .mul (.var 0) (.call 5 [.bin .sub (.var 2) (.var 1)]))] [], .ret (.call 6 [.var 0, .call 5 [.bin .sub (.var 1) (.var 2)]])]
/-- signed -/
def b9 : List Sx := [.ret (.ife (.cmp .gt (.var 1) (.con (.int 0))) (.call 6 [.var 0, .var 1]) (.call 6 [.bin .sub (.con (.int 0)) (.var 0), .bin .sub (.con (.int 0)) (.var 1)]))]
/-- sum_of -/
def b10 : List Sx := [.asg (.nm 3) (.bi .max2 [.ix (.var 0) (.con (.int 1)), .ix (.var 1) (.con (.int 1))]), .ret (.call 7 [.bin .add (.call 8 [.ix (.var 0) (.con (.int 0)), .ix (.var 0) (.con (.int 1)), .var 3]) (.bin .mul (.var 2) (.call 8 [.ix (.var 1) (.con (.int 0)), .ix (.var 1) (.con (.int 1)), .var 3])), .var 3])]
/-- product -/
def b11 : List Sx := [.asg (.nm 3) (.bi .min2 [.bin .add (.ix (.var 0) (.con (.int 1))) (.ix (.var 1) (.con (.int 1))), .bi .max3 [.var 2, .ix (.var 0) (.con (.int 1)), .ix (.var 1) (.con (.int 1))]]), .ret (.call 7 [.call 8 [.bin .mul (.ix (.var 0) (.con (.int 0))) (.ix (.var 1) (.con (.int 0))), .bin .add (.ix (.var 0) (.con (.int 1))) (.ix (.var 1) (.con (.int 1))), .var 3], .var 3])]
/-- quotient -/
def b12 : List Sx := [.ife (.cmp .eq (.ix (.var 1) (.con (.int 0))) (.con (.int 0))) [.bad] [], .ret (.call 7 [.call 9 [.bin .mul (.ix (.var 0) (.con (.int 0))) (.call 5 [.bin .add (.var 2) (.ix (.var 1) (.con (.int 1)))]), .bin .mul (.ix (.var 1) (.con (.int 0))) (.call 5 [.ix (.var 0) (.con (.int 1))])], .var 2])]
/-- raised -/
def b13 : List Sx := [.asg (.tup [3, 4]) (.bi .divmod [.bi .abs [.ix (.var 1) (.con (.int 0))], .call 5 [.ix (.var 1) (.con (.int 1))]]), .ife (.or_ [.cmp .gt (.var 4) (.con (.int 0)), .cmp .gt (.var 3) (.con (.int 99))]) [.bad] [], .asg (.nm 5) (.call 4 [.ix (.var 0) (.con (.int 0)), .var 3]), .ife (.cmp .ge (.ix (.var 1) (.con (.int 0))) (.con (.int 0))) [.asg (.nm 6) (.bi .min2 [.bin .mul (.var 3) (.ix (.var 0) (.con (.int 1))), .bi .max2 [.var 2, .ix (.var 0) (.con (.int 1))]]), .ret (.call 7 [.call 8 [.var 5, .bin .mul (.var 3) (.ix (.var 0) (.con (.int 1))), .var 6], .var 6])] [], .ife (.cmp .eq (.ix (.var 0) (.con (.int 0))) (.con (.int 0))) [.bad] [], .ret (.call 7 [.call 9 [.call 5 [.bin .add (.var 2) (.bin .mul (.var 3) (.ix (.var 0) (.con (.int 1))))], .var 5], .var 2])]
/-- square -/
def b14 : List Sx := [.asg (.tup [1, 2]) (.tup [.con (.int 0), .con (.int 1)]), .whl (.cmp .le (.bin .mul (.var 2) (.var 2)) (.var 0)) [.aug 2 .mul (.con (.int 2))], .whl (.cmp .gt (.bin .sub (.var 2) (.var 1)) (.con (.int 1))) [.asg (.nm 3) (.bin .fdiv (.bin .add (.var 1) (.var 2)) (.con (.int 2))), .ife (.cmp .le (.bin .mul (.var 3) (.var 3)) (.var 0)) [.asg (.nm 1) (.var 3)] [.asg (.nm 2) (.var 3)]], .ret (.var 1)]
/-- rooted -/
def b15 : List Sx := [.ife (.cmp .lt (.ix (.var 0) (.con (.int 0))) (.con (.int 0))) [.bad] [], .asg (.nm 2) (.bi .max2 [.var 1, .ix (.var 0) (.con (.int 1))]), .ret (.call 7 [.call 14 [.call 8 [.ix (.var 0) (.con (.int 0)), .ix (.var 0) (.con (.int 1)), .bin .mul (.con (.int 2)) (.var 2)]], .var 2])]
/-- order -/
def b16 : List Sx := [.par [2, 3] [.bin .mul (.ix (.var 0) (.con (.int 0))) (.call 5 [.ix (.var 1) (.con (.int 1))]), .bin .mul (.ix (.var 1) (.con (.int 0))) (.call 5 [.ix (.var 0) (.con (.int 1))])], .ret (.bin .sub (.bi .int_ [.cmp .gt (.var 2) (.var 3)]) (.bi .int_ [.cmp .lt (.var 2) (.var 3)]))]
/-- plus -/
def b17 : List Sx := [.exp (.call 2 [.lst [.var 0, .var 1]]), .ret (.call 10 [.var 0, .var 1, .con (.int 1)])]
/-- minus -/
def b18 : List Sx := [.exp (.call 2 [.lst [.var 0, .var 1]]), .ret (.call 10 [.var 0, .var 1, .neg (.con (.int 1))])]
/-- times -/
def b19 : List Sx := [.exp (.call 2 [.lst [.var 0, .var 1]]), .exp (.call 3 [.var 2]), .ret (.call 11 [.var 0, .var 1, .var 2])]
/-- over -/
def b20 : List Sx := [.exp (.call 2 [.lst [.var 0, .var 1]]), .exp (.call 3 [.var 2]), .ret (.call 12 [.var 0, .var 1, .var 2])]
/-- power -/
def b21 : List Sx := [.exp (.call 2 [.lst [.var 0, .var 1]]), .exp (.call 3 [.var 2]), .ret (.call 13 [.var 0, .var 1, .var 2])]
/-- root -/
def b22 : List Sx := [.exp (.call 2 [.lst [.var 0]]), .exp (.call 3 [.var 1]), .ret (.call 15 [.var 0, .var 1])]
/-- compare -/
def b23 : List Sx := [.exp (.call 2 [.lst [.var 0, .var 1]]), .ret (.call 16 [.var 0, .var 1])]
/-- _law_cell_at -/
def b24 : List Sx := [.ife (.cmp .lt (.var 1) (.bi .len [.var 0])) [.ret (.ix (.var 0) (.var 1))] [], .ife (.cmp .eq (.var 0) (.lst [])) [.ret (.con (.int 0))] [], .asg (.nm 2) (.ix (.var 0) (.bin .mod (.var 1) (.bi .len [.var 0]))), .for_ (.nm 3) .rng [.bi .min2 [.bin .fdiv (.var 1) (.bi .len [.var 0]), .con (.int 60)]] [.asg (.nm 2) (.bin .fdiv (.var 2) (.con (.int 1000003)))], .ret (.bin .add (.bin .add (.bin .mul (.ix (.var 0) (.bin .mod (.var 1) (.bi .len [.var 0]))) (.con (.int 31))) (.var 1)) (.bin .mul (.var 2) (.con (.int 101))))]
/-- _law_mixed -/
def b25 : List Sx := [.asg (.nm 3) (.bin .mod (.bin .add (.bin .add (.bin .mul (.call 24 [.var 0, .var 1]) (.con (.int 1103515245))) (.bin .mul (.con (.int 7919)) (.var 1))) (.con (.int 12345))) (.con (.int 2147483647))), .ret (.bin .mod (.bin .mod (.bin .mod (.bin .pow (.var 3) (.con (.int 5))) (.con (.int 2147483647))) (.con (.int 999983))) (.var 2))]
/-- _law_draw -/
def b26 : List Sx := [.exp (.bm .append (.var 1) [.con (.int 0)]), .ret (.call 25 [.var 0, .bi .len [.var 1], .var 2])]
/-- law -/
def b27 : List Sx := [.asg (.nm 1) (.lst []), .for_ (.nm 2) .rng [.con (.int 3)] [.asg (.tup [3, 4, 5]) (.lc (.tup [.bin .sub (.call 26 [.var 0, .var 1, .con (.int 2000)]) (.con (.int 1000)), .call 26 [.var 0, .var 1, .con (.int 4)]]) [6] .rng [.con (.int 3)] []), .ife (.or_ [.cmp .ne (.call 17 [.call 17 [.var 3, .var 4], .var 5]) (.call 17 [.var 3, .call 17 [.var 4, .var 5]]), .cmp .ne (.ix (.call 17 [.call 18 [.var 3, .var 4], .call 18 [.var 4, .var 3]]) (.con (.int 0))) (.con (.int 0))]) [.ret (.con (.bl false))] [], .ife (.cmp .ne (.callk 19 [.callk 19 [.var 3, .var 4] [] [.con (.int 20)], .var 5] [] [.con (.int 20)]) (.callk 19 [.var 3, .callk 19 [.var 4, .var 5] [] [.con (.int 20)]] [] [.con (.int 20)])) [.ret (.con (.bl false))] [], .par [7, 8] [.callk 19 [.var 3, .call 17 [.var 4, .var 5]] [] [.con (.int 20)], .call 17 [.callk 19 [.var 3, .var 4] [] [.con (.int 20)], .callk 19 [.var 3, .var 5] [] [.con (.int 20)]]], .par [9, 10] [.call 23 [.callk 19 [.var 3, .var 4] [] [.con (.int 0)], .callk 19 [.var 3, .var 4] [] [.con (.int 20)]], .ife (.cmp .ge (.bin .mul (.ix (.var 3) (.con (.int 0))) (.ix (.var 4) (.con (.int 0)))) (.con (.int 0))) (.con (.int 1)) (.neg (.con (.int 1)))], .ife (.or_ [.cmp .ne (.call 23 [.var 7, .var 8]) (.con (.int 0)), .cmp .gt (.bin .mul (.var 9) (.var 10)) (.con (.int 0))]) [.ret (.con (.bl false))] [], .ife (.and_ [.cmp .ne (.ix (.var 4) (.con (.int 0))) (.con (.int 0)), .cmp .ne (.call 23 [.callk 20 [.callk 19 [.var 3, .var 4] [] [.con (.int 20)], .var 4] [] [.con (.int 20)], .var 3]) (.con (.int 0))]) [.ret (.con (.bl false))] [], .asg (.nm 11) (.callk 21 [.var 3, .tup [.con (.int 2), .con (.int 0)]] [] [.con (.int 20)]), .ife (.or_ [.cmp .ne (.var 11) (.callk 19 [.var 3, .var 3] [] [.con (.int 20)]), .cmp .ne (.call 23 [.callk 22 [.var 11] [] [.con (.int 20)], .tup [.bi .abs [.ix (.var 3) (.con (.int 0))], .ix (.var 3) (.con (.int 1))]]) (.con (.int 0))]) [.ret (.con (.bl false))] [], .ife (.cmp .ne (.call 23 [.callk 21 [.var 3, .tup [.con (.int 3), .con (.int 0)]] [] [.con (.int 20)], .callk 19 [.var 11, .var 3] [] [.con (.int 20)]]) (.con (.int 0))) [.ret (.con (.bl false))] [], .ife (.cmp .ne (.callk 21 [.var 3, .tup [.con (.int 0), .con (.int 0)]] [] [.con (.int 20)]) (.tup [.con (.int 1), .con (.int 0)])) [.ret (.con (.bl false))] []], .ret (.con (.bl true))]
def FF : List FnI := ([.ir 3 3 b0, .ir 1 1 b1, .ir 1 2 b2, .ir 1 1 b3, .ir 2 4 b4, .ir 1 1 b5, .ir 2 2 b6, .ir 2 2 b7, .ir 3 3 b8, .ir 2 2 b9, .ir 3 4 b10, .ir 3 4 b11, .ir 3 3 b12, .ir 3 7 b13, .ir 1 4 b14, .ir 2 3 b15, .ir 2 4 b16, .ir 2 2 b17, .ir 2 2 b18, .ir 3 3 b19, .ir 3 3 b20, .ir 3 3 b21, .ir 2 2 b22, .ir 2 2 b23, .ir 2 4 b24, .ir 3 4 b25, .ir 3 3 b26, .ir 1 12 b27] : List FnI)
def F (i : Nat) : Option FnI := FF[i]?
def T : Tb where
  glo := ([("FIGURES", .int 100000000000000000000000000000000000000000000000000000000000000000000000000000000000000000000000000000000000000000000000000000000000000000000000000000000000000000000000000000000000000000000000000000000000000000000000000000000000000000000000000000000000000000000000000000000000000000000000000000000000), ("SCALE", .int 60), ("WORK", .int 20)] : List (Str × VV))
  fns := ([("is_whole", 3), ("is_number", 1), ("need_numbers", 1), ("need_scale", 1), ("raise_to", 2), ("ten", 1), ("cut_off", 2), ("fitted", 2), ("at_scale", 3), ("signed", 2), ("sum_of", 3), ("product", 3), ("quotient", 3), ("raised", 3), ("square", 1), ("rooted", 2), ("order", 2), ("plus", 2), ("minus", 2), ("times", 3), ("over", 3), ("power", 3), ("root", 2), ("compare", 2), ("_law_cell_at", 2), ("_law_mixed", 3), ("_law_draw", 3), ("law", 1)] : List (Str × Nat))
  dfl := ([(19, [.int 0]), (20, [.int 0]), (21, [.int 0]), (22, [.int 0])] : List (Nat × List VV))
  kws := ([(19, "scale"), (20, "scale"), (21, "scale"), (22, "scale")] : List (Nat × Str))
  free := (["abs", "bool", "divmod", "int", "isinstance", "len", "max", "min", "range", "tuple"] : List Str)
end VI.K39

end
section
set_option maxHeartbeats 4000000
/-! The plain law of k39. Own work. -/
namespace VI.K39
abbrev rn := run (Gof T) F
/-! the defs' openings -/
theorem q0 (d : Nat) (a b c : VV) (h : Hv) : rn (d + 1) 0 [a, b, c] h = finish (denSs (Gof T) (rn d) b0 [some a, some b, some c] h) := rfl
theorem q1 (d : Nat) (a : VV) (h : Hv) : rn (d + 1) 1 [a] h = finish (denSs (Gof T) (rn d) b1 [some a] h) := rfl
theorem q2 (d : Nat) (a : VV) (h : Hv) : rn (d + 1) 2 [a] h = finish (denSs (Gof T) (rn d) b2 [some a, none] h) := rfl
theorem q3 (d : Nat) (a : VV) (h : Hv) : rn (d + 1) 3 [a] h = finish (denSs (Gof T) (rn d) b3 [some a] h) := rfl
theorem q4 (d : Nat) (a b : VV) (h : Hv) : rn (d + 1) 4 [a, b] h = finish (denSs (Gof T) (rn d) b4 [some a, some b, none, none] h) := rfl
theorem q5 (d : Nat) (a : VV) (h : Hv) : rn (d + 1) 5 [a] h = finish (denSs (Gof T) (rn d) b5 [some a] h) := rfl
theorem q6 (d : Nat) (a b : VV) (h : Hv) : rn (d + 1) 6 [a, b] h = finish (denSs (Gof T) (rn d) b6 [some a, some b] h) := rfl
theorem q7 (d : Nat) (a b : VV) (h : Hv) : rn (d + 1) 7 [a, b] h = finish (denSs (Gof T) (rn d) b7 [some a, some b] h) := rfl
theorem q8 (d : Nat) (a b c : VV) (h : Hv) : rn (d + 1) 8 [a, b, c] h = finish (denSs (Gof T) (rn d) b8 [some a, some b, some c] h) := rfl
theorem q9 (d : Nat) (a b : VV) (h : Hv) : rn (d + 1) 9 [a, b] h = finish (denSs (Gof T) (rn d) b9 [some a, some b] h) := rfl
theorem q10 (d : Nat) (a b c : VV) (h : Hv) : rn (d + 1) 10 [a, b, c] h = finish (denSs (Gof T) (rn d) b10 [some a, some b, some c, none] h) := rfl
theorem q11 (d : Nat) (a b c : VV) (h : Hv) : rn (d + 1) 11 [a, b, c] h = finish (denSs (Gof T) (rn d) b11 [some a, some b, some c, none] h) := rfl
theorem q12 (d : Nat) (a b c : VV) (h : Hv) : rn (d + 1) 12 [a, b, c] h = finish (denSs (Gof T) (rn d) b12 [some a, some b, some c] h) := rfl
theorem q13 (d : Nat) (a b c : VV) (h : Hv) : rn (d + 1) 13 [a, b, c] h = finish (denSs (Gof T) (rn d) b13 [some a, some b, some c, none, none, none, none] h) := rfl
theorem q14 (d : Nat) (a : VV) (h : Hv) : rn (d + 1) 14 [a] h = finish (denSs (Gof T) (rn d) b14 [some a, none, none, none] h) := rfl
theorem q15 (d : Nat) (a b : VV) (h : Hv) : rn (d + 1) 15 [a, b] h = finish (denSs (Gof T) (rn d) b15 [some a, some b, none] h) := rfl
theorem q16 (d : Nat) (a b : VV) (h : Hv) : rn (d + 1) 16 [a, b] h = finish (denSs (Gof T) (rn d) b16 [some a, some b, none, none] h) := rfl
theorem q17 (d : Nat) (a b : VV) (h : Hv) : rn (d + 1) 17 [a, b] h = finish (denSs (Gof T) (rn d) b17 [some a, some b] h) := rfl
theorem q18 (d : Nat) (a b : VV) (h : Hv) : rn (d + 1) 18 [a, b] h = finish (denSs (Gof T) (rn d) b18 [some a, some b] h) := rfl
theorem q19 (d : Nat) (a b c : VV) (h : Hv) : rn (d + 1) 19 [a, b, c] h = finish (denSs (Gof T) (rn d) b19 [some a, some b, some c] h) := rfl
theorem q20 (d : Nat) (a b c : VV) (h : Hv) : rn (d + 1) 20 [a, b, c] h = finish (denSs (Gof T) (rn d) b20 [some a, some b, some c] h) := rfl
theorem q21 (d : Nat) (a b c : VV) (h : Hv) : rn (d + 1) 21 [a, b, c] h = finish (denSs (Gof T) (rn d) b21 [some a, some b, some c] h) := rfl
theorem q22 (d : Nat) (a b : VV) (h : Hv) : rn (d + 1) 22 [a, b] h = finish (denSs (Gof T) (rn d) b22 [some a, some b] h) := rfl
theorem q23 (d : Nat) (a b : VV) (h : Hv) : rn (d + 1) 23 [a, b] h = finish (denSs (Gof T) (rn d) b23 [some a, some b] h) := rfl
theorem q24 (d : Nat) (a b : VV) (h : Hv) : rn (d + 1) 24 [a, b] h = finish (denSs (Gof T) (rn d) b24 [some a, some b, none, none] h) := rfl
theorem q25 (d : Nat) (a b c : VV) (h : Hv) : rn (d + 1) 25 [a, b, c] h = finish (denSs (Gof T) (rn d) b25 [some a, some b, some c, none] h) := rfl
theorem q26 (d : Nat) (a b c : VV) (h : Hv) : rn (d + 1) 26 [a, b, c] h = finish (denSs (Gof T) (rn d) b26 [some a, some b, some c] h) := rfl
theorem q27 (d : Nat) (a : VV) (h : Hv) : rn (d + 1) 27 [a] h = finish (denSs (Gof T) (rn d) b27 [some a, none, none, none, none, none, none, none, none, none, none, none] h) := rfl

def FIG : Nat := 10 ^ 299
theorem g0 : Gof T 0 = some (.int (FIG : Int)) := rfl
theorem g1 : Gof T 1 = some (.int 60) := rfl
theorem g2 : Gof T 2 = some (.int 20) := rfl
theorem dT {p : Prop} [Decidable p] (h : p) : decide p = true := decide_eq_true h
theorem dF {p : Prop} [Decidable p] (h : ¬p) : decide p = false := decide_eq_false h
theorem c0 (d : Nat) (t lo hi : Int) (h : Hv) (h1 : lo ≤ t) (h2 : t ≤ hi) : rn (d + 1) 0 [.int t, .int lo, .int hi] h = .ok (.bl true) h := by
  rw [q0]
  unfold b0
  simp only [VI.Q.ss0, VI.Q.ss1, VI.Q.sasg, VI.Q.spar, VI.Q.saug, VI.Q.sexp, VI.Q.sret, VI.Q.sretn, VI.Q.sbad, VI.Q.ifS_t, VI.Q.ifS_f, VI.Q.ifR_t, VI.Q.ifR_f, VI.Q.sife, VI.Q.sfor1, VI.Q.whl1, VI.Q.lcGo_fix, VI.Q.lc, VI.Q.lcF0, VI.Q.noX_ok, VI.Q.wk_fix, VI.Q.wk_live,  VI.Q.l0, VI.Q.l1, VI.Q.dn0, VI.Q.dn1, VI.Q.con, VI.Q.var, VI.Q.glo, VI.Q.bin, VI.Q.negV_int, VI.Q.neg, VI.Q.nt, VI.Q.ntT, VI.Q.andE, VI.Q.orE, VI.Q.andTt, VI.Q.orTt, VI.Q.andV1, VI.Q.andV2, VI.Q.orV1, VI.Q.orV2, VI.Q.andT0, VI.Q.andT1, VI.Q.orT0, VI.Q.orT1, VI.Q.cmpE, VI.Q.cmpTt, VI.Q.chnTt, VI.Q.chnE, VI.Q.ifeE, VI.Q.tup, VI.Q.lst, VI.Q.call, VI.Q.callT, VI.Q.callk, VI.Q.bi, VI.Q.biT, VI.Q.isi, VI.Q.isiT, VI.Q.ix, VI.Q.bm, VI.Q.getv0, VI.Q.getv1, VI.Q.set0, VI.Q.set1, VI.Q.put_nm, VI.Q.put_tup, VI.Q.tg0, VI.Q.tg1, VI.Q.fin_nx, VI.Q.fin_rt, VI.Q.lift1, VI.Q.of1, VI.Q.o_add, VI.Q.o_sub, VI.Q.o_aadd, VI.Q.o_lt, VI.Q.o_le, VI.Q.o_gt, VI.Q.o_ge, VI.Q.o_eq, VI.Q.o_ne, VI.Q.o_eq2, VI.Q.o_ne2, VI.Q.tr_b, VI.Q.tr_i, VI.Q.b_abs, VI.Q.b_max2, VI.Q.b_max3, VI.Q.b_min2, VI.Q.b_intb, VI.Q.b_lent, VI.Q.it0, VI.Q.it1, VI.Q.isI, VI.Q.isB, VI.Q.isT, VI.Q.ap0, VI.Q.ap1, VI.R.bind_ok, VI.R.toS_ok, VI.RS.seq_nx, VI.RS.seq_rt, VI.RS.seq_fail, VI.R.bind_fail, VI.R.toS_fail, VI.forFix, VI.rngL, VI.loopR_nx, VI.loopR_rt, Bool.not_false, dT h1, dT h2]
abbrev nm (f : Int) (s : Nat) : VV := .tup [.int f, .int s]
structure Ok (f : Int) (s : Nat) : Prop where
  f : f.natAbs < FIG
  s : s ≤ 60
theorem c1 (d : Nat) {f : Int} {s : Nat} (h : Hv) (o : Ok f s) : rn (d + 2) 1 [nm f s] h = .ok (.bl true) h := by
  have h1 := o.f
  have h2 := o.s
  rw [q1]
  unfold b1
  have e2 : (!(2 : Int) == 2) = false := rfl
  simp only [VI.Q.ss0, VI.Q.ss1, VI.Q.sasg, VI.Q.spar, VI.Q.saug, VI.Q.sexp, VI.Q.sret, VI.Q.sretn, VI.Q.sbad, VI.Q.ifS_t, VI.Q.ifS_f, VI.Q.ifR_t, VI.Q.ifR_f, VI.Q.sife, VI.Q.sfor1, VI.Q.whl1, VI.Q.lcGo_fix, VI.Q.lc, VI.Q.lcF0, VI.Q.noX_ok, VI.Q.wk_fix, VI.Q.wk_live,  VI.Q.l0, VI.Q.l1, VI.Q.dn0, VI.Q.dn1, VI.Q.con, VI.Q.var, VI.Q.glo, VI.Q.bin, VI.Q.negV_int, VI.Q.neg, VI.Q.nt, VI.Q.ntT, VI.Q.andE, VI.Q.orE, VI.Q.andTt, VI.Q.orTt, VI.Q.andV1, VI.Q.andV2, VI.Q.orV1, VI.Q.orV2, VI.Q.andT0, VI.Q.andT1, VI.Q.orT0, VI.Q.orT1, VI.Q.cmpE, VI.Q.cmpTt, VI.Q.chnTt, VI.Q.chnE, VI.Q.ifeE, VI.Q.tup, VI.Q.lst, VI.Q.call, VI.Q.callT, VI.Q.callk, VI.Q.bi, VI.Q.biT, VI.Q.isi, VI.Q.isiT, VI.Q.ix, VI.Q.bm, VI.Q.getv0, VI.Q.getv1, VI.Q.set0, VI.Q.set1, VI.Q.put_nm, VI.Q.put_tup, VI.Q.tg0, VI.Q.tg1, VI.Q.fin_nx, VI.Q.fin_rt, VI.Q.lift1, VI.Q.of1, VI.Q.o_add, VI.Q.o_sub, VI.Q.o_aadd, VI.Q.o_lt, VI.Q.o_le, VI.Q.o_gt, VI.Q.o_ge, VI.Q.o_eq, VI.Q.o_ne, VI.Q.o_eq2, VI.Q.o_ne2, VI.Q.tr_b, VI.Q.tr_i, VI.Q.b_abs, VI.Q.b_max2, VI.Q.b_max3, VI.Q.b_min2, VI.Q.b_intb, VI.Q.b_lent, VI.Q.it0, VI.Q.it1, VI.Q.isI, VI.Q.isB, VI.Q.isT, VI.Q.ap0, VI.Q.ap1, VI.R.bind_ok, VI.R.toS_ok, VI.RS.seq_nx, VI.RS.seq_rt, VI.RS.seq_fail, VI.R.bind_fail, VI.R.toS_fail, VI.forFix, VI.rngL, VI.loopR_nx, VI.loopR_rt, Bool.not_true, e2, g0, g1, c0 d f (1 - (FIG : Int)) ((FIG : Int) - 1) h (by omega) (by omega), c0 d (s : Int) 0 60 h (by omega) (by omega)]
theorem c2a (d : Nat) {f : Int} {s : Nat} {n : Nat} (h : Hv) (e : h.get n = some (.lst [nm f s])) (o : Ok f s) : rn (d + 3) 2 [.ref n] h = .ok .non h := by
  have e1 : R.of (walk .val [.ref n] h) = .ok (.live n 1) h := by simp [R.of, walk, e]
  have e2 : liveAt h n 0 = some (nm f s) := by simp [liveAt, e]
  have e3 : liveLen h n = some 1 := by simp [liveLen, e]
  have e4 : Nat.ble 1 1 = true := rfl
  rw [q2]
  unfold b2
  simp only [VI.Q.ss0, VI.Q.ss1, VI.Q.sasg, VI.Q.spar, VI.Q.saug, VI.Q.sexp, VI.Q.sret, VI.Q.sretn, VI.Q.sbad, VI.Q.ifS_t, VI.Q.ifS_f, VI.Q.ifR_t, VI.Q.ifR_f, VI.Q.sife, VI.Q.sfor1, VI.Q.whl1, VI.Q.lcGo_fix, VI.Q.lc, VI.Q.lcF0, VI.Q.noX_ok, VI.Q.wk_fix, VI.Q.wk_live,  VI.Q.l0, VI.Q.l1, VI.Q.dn0, VI.Q.dn1, VI.Q.con, VI.Q.var, VI.Q.glo, VI.Q.bin, VI.Q.negV_int, VI.Q.neg, VI.Q.nt, VI.Q.ntT, VI.Q.andE, VI.Q.orE, VI.Q.andTt, VI.Q.orTt, VI.Q.andV1, VI.Q.andV2, VI.Q.orV1, VI.Q.orV2, VI.Q.andT0, VI.Q.andT1, VI.Q.orT0, VI.Q.orT1, VI.Q.cmpE, VI.Q.cmpTt, VI.Q.chnTt, VI.Q.chnE, VI.Q.ifeE, VI.Q.tup, VI.Q.lst, VI.Q.call, VI.Q.callT, VI.Q.callk, VI.Q.bi, VI.Q.biT, VI.Q.isi, VI.Q.isiT, VI.Q.ix, VI.Q.bm, VI.Q.getv0, VI.Q.getv1, VI.Q.set0, VI.Q.set1, VI.Q.put_nm, VI.Q.put_tup, VI.Q.tg0, VI.Q.tg1, VI.Q.fin_nx, VI.Q.fin_rt, VI.Q.lift1, VI.Q.of1, VI.Q.o_add, VI.Q.o_sub, VI.Q.o_aadd, VI.Q.o_lt, VI.Q.o_le, VI.Q.o_gt, VI.Q.o_ge, VI.Q.o_eq, VI.Q.o_ne, VI.Q.o_eq2, VI.Q.o_ne2, VI.Q.tr_b, VI.Q.tr_i, VI.Q.b_abs, VI.Q.b_max2, VI.Q.b_max3, VI.Q.b_min2, VI.Q.b_intb, VI.Q.b_lent, VI.Q.it0, VI.Q.it1, VI.Q.isI, VI.Q.isB, VI.Q.isT, VI.Q.ap0, VI.Q.ap1, VI.R.bind_ok, VI.R.toS_ok, VI.RS.seq_nx, VI.RS.seq_rt, VI.RS.seq_fail, VI.R.bind_fail, VI.R.toS_fail, VI.forFix, VI.rngL, VI.loopR_nx, VI.loopR_rt, e1, forLive, e2, c1 d h o, e3, e4, Bool.not_true, Nat.sub_self, Nat.zero_add]
theorem c2b (d : Nat) {f : Int} {s : Nat} {g : Int} {t : Nat} {n : Nat} (h : Hv) (e : h.get n = some (.lst [nm f s, nm g t])) (o : Ok f s) (o2 : Ok g t) : rn (d + 3) 2 [.ref n] h = .ok .non h := by
  have e1 : R.of (walk .val [.ref n] h) = .ok (.live n 2) h := by simp [R.of, walk, e]
  have e2 : liveAt h n 0 = some (nm f s) := by simp [liveAt, e]
  have e2' : liveAt h n 1 = some (nm g t) := by simp [liveAt, e]
  have e3 : liveLen h n = some 2 := by simp [liveLen, e]
  have e4 : Nat.ble 2 2 = true := rfl
  rw [q2]
  unfold b2
  simp only [VI.Q.ss0, VI.Q.ss1, VI.Q.sasg, VI.Q.spar, VI.Q.saug, VI.Q.sexp, VI.Q.sret, VI.Q.sretn, VI.Q.sbad, VI.Q.ifS_t, VI.Q.ifS_f, VI.Q.ifR_t, VI.Q.ifR_f, VI.Q.sife, VI.Q.sfor1, VI.Q.whl1, VI.Q.lcGo_fix, VI.Q.lc, VI.Q.lcF0, VI.Q.noX_ok, VI.Q.wk_fix, VI.Q.wk_live,  VI.Q.l0, VI.Q.l1, VI.Q.dn0, VI.Q.dn1, VI.Q.con, VI.Q.var, VI.Q.glo, VI.Q.bin, VI.Q.negV_int, VI.Q.neg, VI.Q.nt, VI.Q.ntT, VI.Q.andE, VI.Q.orE, VI.Q.andTt, VI.Q.orTt, VI.Q.andV1, VI.Q.andV2, VI.Q.orV1, VI.Q.orV2, VI.Q.andT0, VI.Q.andT1, VI.Q.orT0, VI.Q.orT1, VI.Q.cmpE, VI.Q.cmpTt, VI.Q.chnTt, VI.Q.chnE, VI.Q.ifeE, VI.Q.tup, VI.Q.lst, VI.Q.call, VI.Q.callT, VI.Q.callk, VI.Q.bi, VI.Q.biT, VI.Q.isi, VI.Q.isiT, VI.Q.ix, VI.Q.bm, VI.Q.getv0, VI.Q.getv1, VI.Q.set0, VI.Q.set1, VI.Q.put_nm, VI.Q.put_tup, VI.Q.tg0, VI.Q.tg1, VI.Q.fin_nx, VI.Q.fin_rt, VI.Q.lift1, VI.Q.of1, VI.Q.o_add, VI.Q.o_sub, VI.Q.o_aadd, VI.Q.o_lt, VI.Q.o_le, VI.Q.o_gt, VI.Q.o_ge, VI.Q.o_eq, VI.Q.o_ne, VI.Q.o_eq2, VI.Q.o_ne2, VI.Q.tr_b, VI.Q.tr_i, VI.Q.b_abs, VI.Q.b_max2, VI.Q.b_max3, VI.Q.b_min2, VI.Q.b_intb, VI.Q.b_lent, VI.Q.it0, VI.Q.it1, VI.Q.isI, VI.Q.isB, VI.Q.isT, VI.Q.ap0, VI.Q.ap1, VI.R.bind_ok, VI.R.toS_ok, VI.RS.seq_nx, VI.RS.seq_rt, VI.RS.seq_fail, VI.R.bind_fail, VI.R.toS_fail, VI.forFix, VI.rngL, VI.loopR_nx, VI.loopR_rt, e1, forLive, e2, e2', c1 d h o, c1 d h o2, e3, e4, Bool.not_true, Nat.sub_self, Nat.zero_add, Nat.reduceAdd, Nat.reduceSub]
theorem c3 (d : Nat) {s : Nat} (h : Hv) (o : s ≤ 20) : rn (d + 2) 3 [.int s] h = .ok .non h := by
  rw [q3]
  unfold b3
  simp only [VI.Q.ss0, VI.Q.ss1, VI.Q.sasg, VI.Q.spar, VI.Q.saug, VI.Q.sexp, VI.Q.sret, VI.Q.sretn, VI.Q.sbad, VI.Q.ifS_t, VI.Q.ifS_f, VI.Q.ifR_t, VI.Q.ifR_f, VI.Q.sife, VI.Q.sfor1, VI.Q.whl1, VI.Q.lcGo_fix, VI.Q.lc, VI.Q.lcF0, VI.Q.noX_ok, VI.Q.wk_fix, VI.Q.wk_live,  VI.Q.l0, VI.Q.l1, VI.Q.dn0, VI.Q.dn1, VI.Q.con, VI.Q.var, VI.Q.glo, VI.Q.bin, VI.Q.negV_int, VI.Q.neg, VI.Q.nt, VI.Q.ntT, VI.Q.andE, VI.Q.orE, VI.Q.andTt, VI.Q.orTt, VI.Q.andV1, VI.Q.andV2, VI.Q.orV1, VI.Q.orV2, VI.Q.andT0, VI.Q.andT1, VI.Q.orT0, VI.Q.orT1, VI.Q.cmpE, VI.Q.cmpTt, VI.Q.chnTt, VI.Q.chnE, VI.Q.ifeE, VI.Q.tup, VI.Q.lst, VI.Q.call, VI.Q.callT, VI.Q.callk, VI.Q.bi, VI.Q.biT, VI.Q.isi, VI.Q.isiT, VI.Q.ix, VI.Q.bm, VI.Q.getv0, VI.Q.getv1, VI.Q.set0, VI.Q.set1, VI.Q.put_nm, VI.Q.put_tup, VI.Q.tg0, VI.Q.tg1, VI.Q.fin_nx, VI.Q.fin_rt, VI.Q.lift1, VI.Q.of1, VI.Q.o_add, VI.Q.o_sub, VI.Q.o_aadd, VI.Q.o_lt, VI.Q.o_le, VI.Q.o_gt, VI.Q.o_ge, VI.Q.o_eq, VI.Q.o_ne, VI.Q.o_eq2, VI.Q.o_ne2, VI.Q.tr_b, VI.Q.tr_i, VI.Q.b_abs, VI.Q.b_max2, VI.Q.b_max3, VI.Q.b_min2, VI.Q.b_intb, VI.Q.b_lent, VI.Q.it0, VI.Q.it1, VI.Q.isI, VI.Q.isB, VI.Q.isT, VI.Q.ap0, VI.Q.ap1, VI.R.bind_ok, VI.R.toS_ok, VI.RS.seq_nx, VI.RS.seq_rt, VI.RS.seq_fail, VI.R.bind_fail, VI.R.toS_fail, VI.forFix, VI.rngL, VI.loopR_nx, VI.loopR_rt, g2, c0 d (s : Int) 0 20 h (by omega) (by omega), Bool.not_true]
theorem c4_loop (n : Int) (hn : Nat.blt n.natAbs 18446744073709551616 = true) (d : Nat) (h : Hv) (w : VV) : ∀ (k : Nat) (m lo : Int) (o : Option VV), ∃ o', forFix (.nm 3) (denSs (Gof T) (rn d) [.asg (.nm 2) (.bin .mul (.var 2) (.var 0))]) (rngL lo k) [some (.int n), some w, some (.int m), o] h = .nx [some (.int n), some w, some (.int (m * n ^ k)), o'] h := by
  intro k
  induction k with
  | zero => intro m lo o; exact ⟨o, by simp [rngL, forFix]⟩
  | succ k ih =>
    intro m lo o
    obtain ⟨o', e⟩ := ih (m * n) (lo + 1) (some (.int lo))
    refine ⟨o', ?_⟩
    have mo : mulOk m n = true := by unfold mulOk; rw [hn]; simp
    simp only [VI.Q.ss0, VI.Q.ss1, VI.Q.sasg, VI.Q.spar, VI.Q.saug, VI.Q.sexp, VI.Q.sret, VI.Q.sretn, VI.Q.sbad, VI.Q.ifS_t, VI.Q.ifS_f, VI.Q.ifR_t, VI.Q.ifR_f, VI.Q.sife, VI.Q.sfor1, VI.Q.whl1, VI.Q.lcGo_fix, VI.Q.lc, VI.Q.lcF0, VI.Q.noX_ok, VI.Q.wk_fix, VI.Q.wk_live,  VI.Q.l0, VI.Q.l1, VI.Q.dn0, VI.Q.dn1, VI.Q.con, VI.Q.var, VI.Q.glo, VI.Q.bin, VI.Q.negV_int, VI.Q.neg, VI.Q.nt, VI.Q.ntT, VI.Q.andE, VI.Q.orE, VI.Q.andTt, VI.Q.orTt, VI.Q.andV1, VI.Q.andV2, VI.Q.orV1, VI.Q.orV2, VI.Q.andT0, VI.Q.andT1, VI.Q.orT0, VI.Q.orT1, VI.Q.cmpE, VI.Q.cmpTt, VI.Q.chnTt, VI.Q.chnE, VI.Q.ifeE, VI.Q.tup, VI.Q.lst, VI.Q.call, VI.Q.callT, VI.Q.callk, VI.Q.bi, VI.Q.biT, VI.Q.isi, VI.Q.isiT, VI.Q.ix, VI.Q.bm, VI.Q.getv0, VI.Q.getv1, VI.Q.set0, VI.Q.set1, VI.Q.put_nm, VI.Q.put_tup, VI.Q.tg0, VI.Q.tg1, VI.Q.fin_nx, VI.Q.fin_rt, VI.Q.lift1, VI.Q.of1, VI.Q.o_add, VI.Q.o_sub, VI.Q.o_aadd, VI.Q.o_lt, VI.Q.o_le, VI.Q.o_gt, VI.Q.o_ge, VI.Q.o_eq, VI.Q.o_ne, VI.Q.o_eq2, VI.Q.o_ne2, VI.Q.tr_b, VI.Q.tr_i, VI.Q.b_abs, VI.Q.b_max2, VI.Q.b_max3, VI.Q.b_min2, VI.Q.b_intb, VI.Q.b_lent, VI.Q.it0, VI.Q.it1, VI.Q.isI, VI.Q.isB, VI.Q.isT, VI.Q.ap0, VI.Q.ap1, VI.R.bind_ok, VI.R.toS_ok, VI.RS.seq_nx, VI.RS.seq_rt, VI.RS.seq_fail, VI.R.bind_fail, VI.R.toS_fail, VI.forFix, VI.rngL, VI.loopR_nx, VI.loopR_rt, VI.Q.o_mul _ _ _ mo]
    rw [e, Int.pow_succ]
    congr 5
    rw [Int.mul_assoc, Int.mul_comm (n ^ k) n]
theorem c4 (d : Nat) (n : Int) (k : Nat) (h : Hv) (hn : Nat.blt n.natAbs 18446744073709551616 = true) (hk : k < 4611686018427387904) : rn (d + 1) 4 [.int n, .int k] h = .ok (.int (n ^ k)) h := by
  rw [q4]
  unfold b4
  obtain ⟨o', e⟩ := c4_loop n hn d h (.int k) k 1 0 none
  have sm : smallI (k : Int) = true := by unfold smallI; exact Hv.blt_t (by simpa using hk)
  have e1 : R.of (walk .rng [.int (k : Int)] h) = .ok (.fix (rngL 0 k)) h := by simp [R.of, walk, sm]
  simp only [VI.Q.ss0, VI.Q.ss1, VI.Q.sasg, VI.Q.spar, VI.Q.saug, VI.Q.sexp, VI.Q.sret, VI.Q.sretn, VI.Q.sbad, VI.Q.ifS_t, VI.Q.ifS_f, VI.Q.ifR_t, VI.Q.ifR_f, VI.Q.sife, VI.Q.sfor1, VI.Q.whl1, VI.Q.lcGo_fix, VI.Q.lc, VI.Q.lcF0, VI.Q.noX_ok, VI.Q.wk_fix, VI.Q.wk_live,  VI.Q.l0, VI.Q.l1, VI.Q.dn0, VI.Q.dn1, VI.Q.con, VI.Q.var, VI.Q.glo, VI.Q.bin, VI.Q.negV_int, VI.Q.neg, VI.Q.nt, VI.Q.ntT, VI.Q.andE, VI.Q.orE, VI.Q.andTt, VI.Q.orTt, VI.Q.andV1, VI.Q.andV2, VI.Q.orV1, VI.Q.orV2, VI.Q.andT0, VI.Q.andT1, VI.Q.orT0, VI.Q.orT1, VI.Q.cmpE, VI.Q.cmpTt, VI.Q.chnTt, VI.Q.chnE, VI.Q.ifeE, VI.Q.tup, VI.Q.lst, VI.Q.call, VI.Q.callT, VI.Q.callk, VI.Q.bi, VI.Q.biT, VI.Q.isi, VI.Q.isiT, VI.Q.ix, VI.Q.bm, VI.Q.getv0, VI.Q.getv1, VI.Q.set0, VI.Q.set1, VI.Q.put_nm, VI.Q.put_tup, VI.Q.tg0, VI.Q.tg1, VI.Q.fin_nx, VI.Q.fin_rt, VI.Q.lift1, VI.Q.of1, VI.Q.o_add, VI.Q.o_sub, VI.Q.o_aadd, VI.Q.o_lt, VI.Q.o_le, VI.Q.o_gt, VI.Q.o_ge, VI.Q.o_eq, VI.Q.o_ne, VI.Q.o_eq2, VI.Q.o_ne2, VI.Q.tr_b, VI.Q.tr_i, VI.Q.b_abs, VI.Q.b_max2, VI.Q.b_max3, VI.Q.b_min2, VI.Q.b_intb, VI.Q.b_lent, VI.Q.it0, VI.Q.it1, VI.Q.isI, VI.Q.isB, VI.Q.isT, VI.Q.ap0, VI.Q.ap1, VI.R.bind_ok, VI.R.toS_ok, VI.RS.seq_nx, VI.RS.seq_rt, VI.RS.seq_fail, VI.R.bind_fail, VI.R.toS_fail, VI.forFix, VI.rngL, VI.loopR_nx, VI.loopR_rt, e1, e, Int.one_mul]
/-! ### sizes -/
def Bd (n : Nat) (f : Int) : Prop := f.natAbs ≤ 10 ^ n
theorem Bd.mono {n m : Nat} {f : Int} (h : Bd n f) (l : n ≤ m) : Bd m f := Nat.le_trans h (Nat.pow_le_pow_right (by omega) l)
theorem Bd.mul {n m : Nat} {f g : Int} (h : Bd n f) (l : Bd m g) : Bd (n + m) (f * g) := by
  unfold Bd at *
  rw [Int.natAbs_mul, Nat.pow_add]
  exact Nat.mul_le_mul h l
theorem Bd.add {n : Nat} {f g : Int} (h : Bd n f) (l : Bd n g) : Bd (n + 1) (f + g) := by
  unfold Bd at *
  have := Int.natAbs_add_le f g
  rw [Nat.pow_succ]
  omega
theorem Bd.ten (k : Nat) : Bd k ((10 : Int) ^ k) := by
  unfold Bd
  rw [Int.natAbs_pow]
  exact Nat.le_refl _
theorem Bd.fig {n : Nat} {f : Int} (h : Bd n f) (l : n ≤ 298) : f.natAbs < FIG := by
  have h2 : 10 ^ n ≤ 10 ^ 298 := Nat.pow_le_pow_right (by omega) l
  have h3 : 10 ^ 298 < FIG := by decide +kernel
  exact Nat.lt_of_le_of_lt (Nat.le_trans h h2) h3
theorem Bd.ok {n s : Nat} {f : Int} (h : Bd n f) (l : n ≤ 298) (hs : s ≤ 60) : Ok f s := ⟨h.fig l, hs⟩
theorem Bd.sm {n : Nat} {f : Int} (h : Bd n f) (l : n ≤ 1000) : f.natAbs.log2 < 9000 := by
  have h2 : 10 ^ n ≤ 10 ^ 1000 := Nat.pow_le_pow_right (by omega) l
  have h3 : 10 ^ 1000 < 2 ^ 9000 := by decide +kernel
  by_cases z : f.natAbs = 0
  · rw [z]; decide
  · exact (Nat.log2_lt z).mpr (Nat.lt_of_le_of_lt (Nat.le_trans h h2) h3)
theorem Bd.mulOk {n m : Nat} {f g : Int} (h : Bd n f) (h2 : Bd m g) (l : n ≤ 1000) (l2 : m ≤ 1000) : mulOk f g = true := by
  have a := h.sm l
  have b := h2.sm l2
  unfold VI.mulOk
  rw [Bool.or_eq_true_iff, Bool.or_eq_true_iff]
  exact .inr (.inr (Hv.blt_t (by omega)))
theorem Bd.fdiv {n : Nat} {f : Int} (h : Bd n f) (l : n ≤ 1000) (p : 0 < f) : fdivOk f = true := by
  have a := h.sm l
  cases f with
  | ofNat n =>
    unfold fdivOk
    have p : 0 < n := by simpa using p
    have a : n.log2 < 9000 := a
    rw [Bool.and_eq_true_iff]
    exact ⟨Hv.blt_t p, Hv.blt_t a⟩
  | negSucc n => exact absurd p (by omega)
theorem ten_pos (k : Nat) : 0 < (10 : Int) ^ k := Int.pow_pos (by omega)
theorem sub_nat {m s : Nat} (h : s ≤ m) : (m : Int) - (s : Int) = ((m - s : Nat) : Int) := by omega
theorem imax_nat (i j : Nat) : imax (i : Int) (j : Int) = ((max i j : Nat) : Int) := by unfold imax; split <;> omega
theorem imin_nat (i j : Nat) : imin (i : Int) (j : Int) = ((min i j : Nat) : Int) := by unfold imin; split <;> omega
theorem add_nat (i j : Nat) : (i : Int) + (j : Int) = ((i + j : Nat) : Int) := rfl
theorem mul_nat (i j : Nat) : (i : Int) * (j : Int) = ((i * j : Nat) : Int) := rfl
/-! ### the defs -/
theorem c5 (d : Nat) (k : Nat) (h : Hv) (hk : k < 4611686018427387904) : rn (d + 2) 5 [.int k] h = .ok (.int (10 ^ k)) h := by
  rw [q5]
  unfold b5
  simp only [VI.Q.ss0, VI.Q.ss1, VI.Q.sasg, VI.Q.spar, VI.Q.saug, VI.Q.sexp, VI.Q.sret, VI.Q.sretn, VI.Q.sbad, VI.Q.ifS_t, VI.Q.ifS_f, VI.Q.ifR_t, VI.Q.ifR_f, VI.Q.sife, VI.Q.sfor1, VI.Q.whl1, VI.Q.lcGo_fix, VI.Q.lc, VI.Q.lcF0, VI.Q.noX_ok, VI.Q.wk_fix, VI.Q.wk_live,  VI.Q.l0, VI.Q.l1, VI.Q.dn0, VI.Q.dn1, VI.Q.con, VI.Q.var, VI.Q.glo, VI.Q.bin, VI.Q.negV_int, VI.Q.neg, VI.Q.nt, VI.Q.ntT, VI.Q.andE, VI.Q.orE, VI.Q.andTt, VI.Q.orTt, VI.Q.andV1, VI.Q.andV2, VI.Q.orV1, VI.Q.orV2, VI.Q.andT0, VI.Q.andT1, VI.Q.orT0, VI.Q.orT1, VI.Q.cmpE, VI.Q.cmpTt, VI.Q.chnTt, VI.Q.chnE, VI.Q.ifeE, VI.Q.tup, VI.Q.lst, VI.Q.call, VI.Q.callT, VI.Q.callk, VI.Q.bi, VI.Q.biT, VI.Q.isi, VI.Q.isiT, VI.Q.ix, VI.Q.bm, VI.Q.getv0, VI.Q.getv1, VI.Q.set0, VI.Q.set1, VI.Q.put_nm, VI.Q.put_tup, VI.Q.tg0, VI.Q.tg1, VI.Q.fin_nx, VI.Q.fin_rt, VI.Q.lift1, VI.Q.of1, VI.Q.o_add, VI.Q.o_sub, VI.Q.o_aadd, VI.Q.o_lt, VI.Q.o_le, VI.Q.o_gt, VI.Q.o_ge, VI.Q.o_eq, VI.Q.o_ne, VI.Q.o_eq2, VI.Q.o_ne2, VI.Q.tr_b, VI.Q.tr_i, VI.Q.b_abs, VI.Q.b_max2, VI.Q.b_max3, VI.Q.b_min2, VI.Q.b_intb, VI.Q.b_lent, VI.Q.it0, VI.Q.it1, VI.Q.isI, VI.Q.isB, VI.Q.isT, VI.Q.ap0, VI.Q.ap1, VI.R.bind_ok, VI.R.toS_ok, VI.RS.seq_nx, VI.RS.seq_rt, VI.RS.seq_fail, VI.R.bind_fail, VI.R.toS_fail, VI.forFix, VI.rngL, VI.loopR_nx, VI.loopR_rt, c4 d 10 k h rfl hk]
def cut (t b : Int) : Int := if 0 ≤ t then t / b else 0 - (0 - t) / b
theorem c6 (d : Nat) (t b : Int) (h : Hv) (hb : fdivOk b = true) : rn (d + 1) 6 [.int t, .int b] h = .ok (.int (cut t b)) h := by
  rw [q6]
  unfold b6 cut
  by_cases z : 0 ≤ t
  · simp only [VI.Q.ss0, VI.Q.ss1, VI.Q.sasg, VI.Q.spar, VI.Q.saug, VI.Q.sexp, VI.Q.sret, VI.Q.sretn, VI.Q.sbad, VI.Q.ifS_t, VI.Q.ifS_f, VI.Q.ifR_t, VI.Q.ifR_f, VI.Q.sife, VI.Q.sfor1, VI.Q.whl1, VI.Q.lcGo_fix, VI.Q.lc, VI.Q.lcF0, VI.Q.noX_ok, VI.Q.wk_fix, VI.Q.wk_live,  VI.Q.l0, VI.Q.l1, VI.Q.dn0, VI.Q.dn1, VI.Q.con, VI.Q.var, VI.Q.glo, VI.Q.bin, VI.Q.negV_int, VI.Q.neg, VI.Q.nt, VI.Q.ntT, VI.Q.andE, VI.Q.orE, VI.Q.andTt, VI.Q.orTt, VI.Q.andV1, VI.Q.andV2, VI.Q.orV1, VI.Q.orV2, VI.Q.andT0, VI.Q.andT1, VI.Q.orT0, VI.Q.orT1, VI.Q.cmpE, VI.Q.cmpTt, VI.Q.chnTt, VI.Q.chnE, VI.Q.ifeE, VI.Q.tup, VI.Q.lst, VI.Q.call, VI.Q.callT, VI.Q.callk, VI.Q.bi, VI.Q.biT, VI.Q.isi, VI.Q.isiT, VI.Q.ix, VI.Q.bm, VI.Q.getv0, VI.Q.getv1, VI.Q.set0, VI.Q.set1, VI.Q.put_nm, VI.Q.put_tup, VI.Q.tg0, VI.Q.tg1, VI.Q.fin_nx, VI.Q.fin_rt, VI.Q.lift1, VI.Q.of1, VI.Q.o_add, VI.Q.o_sub, VI.Q.o_aadd, VI.Q.o_lt, VI.Q.o_le, VI.Q.o_gt, VI.Q.o_ge, VI.Q.o_eq, VI.Q.o_ne, VI.Q.o_eq2, VI.Q.o_ne2, VI.Q.tr_b, VI.Q.tr_i, VI.Q.b_abs, VI.Q.b_max2, VI.Q.b_max3, VI.Q.b_min2, VI.Q.b_intb, VI.Q.b_lent, VI.Q.it0, VI.Q.it1, VI.Q.isI, VI.Q.isB, VI.Q.isT, VI.Q.ap0, VI.Q.ap1, VI.R.bind_ok, VI.R.toS_ok, VI.RS.seq_nx, VI.RS.seq_rt, VI.RS.seq_fail, VI.R.bind_fail, VI.R.toS_fail, VI.forFix, VI.rngL, VI.loopR_nx, VI.loopR_rt, dT z, VI.Q.o_fdiv _ _ _ hb, if_pos z]
  · simp only [VI.Q.ss0, VI.Q.ss1, VI.Q.sasg, VI.Q.spar, VI.Q.saug, VI.Q.sexp, VI.Q.sret, VI.Q.sretn, VI.Q.sbad, VI.Q.ifS_t, VI.Q.ifS_f, VI.Q.ifR_t, VI.Q.ifR_f, VI.Q.sife, VI.Q.sfor1, VI.Q.whl1, VI.Q.lcGo_fix, VI.Q.lc, VI.Q.lcF0, VI.Q.noX_ok, VI.Q.wk_fix, VI.Q.wk_live,  VI.Q.l0, VI.Q.l1, VI.Q.dn0, VI.Q.dn1, VI.Q.con, VI.Q.var, VI.Q.glo, VI.Q.bin, VI.Q.negV_int, VI.Q.neg, VI.Q.nt, VI.Q.ntT, VI.Q.andE, VI.Q.orE, VI.Q.andTt, VI.Q.orTt, VI.Q.andV1, VI.Q.andV2, VI.Q.orV1, VI.Q.orV2, VI.Q.andT0, VI.Q.andT1, VI.Q.orT0, VI.Q.orT1, VI.Q.cmpE, VI.Q.cmpTt, VI.Q.chnTt, VI.Q.chnE, VI.Q.ifeE, VI.Q.tup, VI.Q.lst, VI.Q.call, VI.Q.callT, VI.Q.callk, VI.Q.bi, VI.Q.biT, VI.Q.isi, VI.Q.isiT, VI.Q.ix, VI.Q.bm, VI.Q.getv0, VI.Q.getv1, VI.Q.set0, VI.Q.set1, VI.Q.put_nm, VI.Q.put_tup, VI.Q.tg0, VI.Q.tg1, VI.Q.fin_nx, VI.Q.fin_rt, VI.Q.lift1, VI.Q.of1, VI.Q.o_add, VI.Q.o_sub, VI.Q.o_aadd, VI.Q.o_lt, VI.Q.o_le, VI.Q.o_gt, VI.Q.o_ge, VI.Q.o_eq, VI.Q.o_ne, VI.Q.o_eq2, VI.Q.o_ne2, VI.Q.tr_b, VI.Q.tr_i, VI.Q.b_abs, VI.Q.b_max2, VI.Q.b_max3, VI.Q.b_min2, VI.Q.b_intb, VI.Q.b_lent, VI.Q.it0, VI.Q.it1, VI.Q.isI, VI.Q.isB, VI.Q.isT, VI.Q.ap0, VI.Q.ap1, VI.R.bind_ok, VI.R.toS_ok, VI.RS.seq_nx, VI.RS.seq_rt, VI.RS.seq_fail, VI.R.bind_fail, VI.R.toS_fail, VI.forFix, VI.rngL, VI.loopR_nx, VI.loopR_rt, dF z, VI.Q.o_fdiv _ _ _ hb, if_neg z]
theorem c7 (d : Nat) {f : Int} {s : Nat} (h : Hv) (o : Ok f s) : rn (d + 1) 7 [.int f, .int s] h = .ok (nm f s) h := by
  have h1 := o.f
  have h2 := o.s
  rw [q7]
  unfold b7
  have e1 : decide ((FIG : Int) ≤ ((f.natAbs : Nat) : Int)) = false := dF (by omega)
  have e2 : decide ((60 : Int) < (s : Int)) = false := dF (by omega)
  simp only [VI.Q.ss0, VI.Q.ss1, VI.Q.sasg, VI.Q.spar, VI.Q.saug, VI.Q.sexp, VI.Q.sret, VI.Q.sretn, VI.Q.sbad, VI.Q.ifS_t, VI.Q.ifS_f, VI.Q.ifR_t, VI.Q.ifR_f, VI.Q.sife, VI.Q.sfor1, VI.Q.whl1, VI.Q.lcGo_fix, VI.Q.lc, VI.Q.lcF0, VI.Q.noX_ok, VI.Q.wk_fix, VI.Q.wk_live,  VI.Q.l0, VI.Q.l1, VI.Q.dn0, VI.Q.dn1, VI.Q.con, VI.Q.var, VI.Q.glo, VI.Q.bin, VI.Q.negV_int, VI.Q.neg, VI.Q.nt, VI.Q.ntT, VI.Q.andE, VI.Q.orE, VI.Q.andTt, VI.Q.orTt, VI.Q.andV1, VI.Q.andV2, VI.Q.orV1, VI.Q.orV2, VI.Q.andT0, VI.Q.andT1, VI.Q.orT0, VI.Q.orT1, VI.Q.cmpE, VI.Q.cmpTt, VI.Q.chnTt, VI.Q.chnE, VI.Q.ifeE, VI.Q.tup, VI.Q.lst, VI.Q.call, VI.Q.callT, VI.Q.callk, VI.Q.bi, VI.Q.biT, VI.Q.isi, VI.Q.isiT, VI.Q.ix, VI.Q.bm, VI.Q.getv0, VI.Q.getv1, VI.Q.set0, VI.Q.set1, VI.Q.put_nm, VI.Q.put_tup, VI.Q.tg0, VI.Q.tg1, VI.Q.fin_nx, VI.Q.fin_rt, VI.Q.lift1, VI.Q.of1, VI.Q.o_add, VI.Q.o_sub, VI.Q.o_aadd, VI.Q.o_lt, VI.Q.o_le, VI.Q.o_gt, VI.Q.o_ge, VI.Q.o_eq, VI.Q.o_ne, VI.Q.o_eq2, VI.Q.o_ne2, VI.Q.tr_b, VI.Q.tr_i, VI.Q.b_abs, VI.Q.b_max2, VI.Q.b_max3, VI.Q.b_min2, VI.Q.b_intb, VI.Q.b_lent, VI.Q.it0, VI.Q.it1, VI.Q.isI, VI.Q.isB, VI.Q.isT, VI.Q.ap0, VI.Q.ap1, VI.R.bind_ok, VI.R.toS_ok, VI.RS.seq_nx, VI.RS.seq_rt, VI.RS.seq_fail, VI.R.bind_fail, VI.R.toS_fail, VI.forFix, VI.rngL, VI.loopR_nx, VI.loopR_rt, g0, g1, e1, e2]
def ats (f : Int) (s m : Nat) : Int := if s ≤ m then f * 10 ^ (m - s) else cut f (10 ^ (s - m))
theorem c8 (d : Nat) {f : Int} {s m n : Nat} (h : Hv) (b : Bd n f) (hn : n ≤ 1000) (hs : s ≤ 1000) (hm : m ≤ 1000) : rn (d + 3) 8 [.int f, .int s, .int m] h = .ok (.int (ats f s m)) h := by
  rw [q8]
  unfold b8 ats
  by_cases z : s ≤ m
  · have e1 : decide ((s : Int) ≤ (m : Int)) = true := dT (by omega)
    simp only [VI.Q.ss0, VI.Q.ss1, VI.Q.sasg, VI.Q.spar, VI.Q.saug, VI.Q.sexp, VI.Q.sret, VI.Q.sretn, VI.Q.sbad, VI.Q.ifS_t, VI.Q.ifS_f, VI.Q.ifR_t, VI.Q.ifR_f, VI.Q.sife, VI.Q.sfor1, VI.Q.whl1, VI.Q.lcGo_fix, VI.Q.lc, VI.Q.lcF0, VI.Q.noX_ok, VI.Q.wk_fix, VI.Q.wk_live,  VI.Q.l0, VI.Q.l1, VI.Q.dn0, VI.Q.dn1, VI.Q.con, VI.Q.var, VI.Q.glo, VI.Q.bin, VI.Q.negV_int, VI.Q.neg, VI.Q.nt, VI.Q.ntT, VI.Q.andE, VI.Q.orE, VI.Q.andTt, VI.Q.orTt, VI.Q.andV1, VI.Q.andV2, VI.Q.orV1, VI.Q.orV2, VI.Q.andT0, VI.Q.andT1, VI.Q.orT0, VI.Q.orT1, VI.Q.cmpE, VI.Q.cmpTt, VI.Q.chnTt, VI.Q.chnE, VI.Q.ifeE, VI.Q.tup, VI.Q.lst, VI.Q.call, VI.Q.callT, VI.Q.callk, VI.Q.bi, VI.Q.biT, VI.Q.isi, VI.Q.isiT, VI.Q.ix, VI.Q.bm, VI.Q.getv0, VI.Q.getv1, VI.Q.set0, VI.Q.set1, VI.Q.put_nm, VI.Q.put_tup, VI.Q.tg0, VI.Q.tg1, VI.Q.fin_nx, VI.Q.fin_rt, VI.Q.lift1, VI.Q.of1, VI.Q.o_add, VI.Q.o_sub, VI.Q.o_aadd, VI.Q.o_lt, VI.Q.o_le, VI.Q.o_gt, VI.Q.o_ge, VI.Q.o_eq, VI.Q.o_ne, VI.Q.o_eq2, VI.Q.o_ne2, VI.Q.tr_b, VI.Q.tr_i, VI.Q.b_abs, VI.Q.b_max2, VI.Q.b_max3, VI.Q.b_min2, VI.Q.b_intb, VI.Q.b_lent, VI.Q.it0, VI.Q.it1, VI.Q.isI, VI.Q.isB, VI.Q.isT, VI.Q.ap0, VI.Q.ap1, VI.R.bind_ok, VI.R.toS_ok, VI.RS.seq_nx, VI.RS.seq_rt, VI.RS.seq_fail, VI.R.bind_fail, VI.R.toS_fail, VI.forFix, VI.rngL, VI.loopR_nx, VI.loopR_rt, e1, sub_nat z, c5 d (m - s) h (by omega), VI.Q.o_mul _ _ _ (b.mulOk (Bd.ten (m - s)) hn (by omega)), if_pos z]
  · have e1 : decide ((s : Int) ≤ (m : Int)) = false := dF (by omega)
    simp only [VI.Q.ss0, VI.Q.ss1, VI.Q.sasg, VI.Q.spar, VI.Q.saug, VI.Q.sexp, VI.Q.sret, VI.Q.sretn, VI.Q.sbad, VI.Q.ifS_t, VI.Q.ifS_f, VI.Q.ifR_t, VI.Q.ifR_f, VI.Q.sife, VI.Q.sfor1, VI.Q.whl1, VI.Q.lcGo_fix, VI.Q.lc, VI.Q.lcF0, VI.Q.noX_ok, VI.Q.wk_fix, VI.Q.wk_live,  VI.Q.l0, VI.Q.l1, VI.Q.dn0, VI.Q.dn1, VI.Q.con, VI.Q.var, VI.Q.glo, VI.Q.bin, VI.Q.negV_int, VI.Q.neg, VI.Q.nt, VI.Q.ntT, VI.Q.andE, VI.Q.orE, VI.Q.andTt, VI.Q.orTt, VI.Q.andV1, VI.Q.andV2, VI.Q.orV1, VI.Q.orV2, VI.Q.andT0, VI.Q.andT1, VI.Q.orT0, VI.Q.orT1, VI.Q.cmpE, VI.Q.cmpTt, VI.Q.chnTt, VI.Q.chnE, VI.Q.ifeE, VI.Q.tup, VI.Q.lst, VI.Q.call, VI.Q.callT, VI.Q.callk, VI.Q.bi, VI.Q.biT, VI.Q.isi, VI.Q.isiT, VI.Q.ix, VI.Q.bm, VI.Q.getv0, VI.Q.getv1, VI.Q.set0, VI.Q.set1, VI.Q.put_nm, VI.Q.put_tup, VI.Q.tg0, VI.Q.tg1, VI.Q.fin_nx, VI.Q.fin_rt, VI.Q.lift1, VI.Q.of1, VI.Q.o_add, VI.Q.o_sub, VI.Q.o_aadd, VI.Q.o_lt, VI.Q.o_le, VI.Q.o_gt, VI.Q.o_ge, VI.Q.o_eq, VI.Q.o_ne, VI.Q.o_eq2, VI.Q.o_ne2, VI.Q.tr_b, VI.Q.tr_i, VI.Q.b_abs, VI.Q.b_max2, VI.Q.b_max3, VI.Q.b_min2, VI.Q.b_intb, VI.Q.b_lent, VI.Q.it0, VI.Q.it1, VI.Q.isI, VI.Q.isB, VI.Q.isT, VI.Q.ap0, VI.Q.ap1, VI.R.bind_ok, VI.R.toS_ok, VI.RS.seq_nx, VI.RS.seq_rt, VI.RS.seq_fail, VI.R.bind_fail, VI.R.toS_fail, VI.forFix, VI.rngL, VI.loopR_nx, VI.loopR_rt, e1, sub_nat (show m ≤ s by omega), c5 d (s - m) h (by omega), c6 (d + 1) _ _ h ((Bd.ten (s - m)).fdiv (by omega) (ten_pos _)), if_neg z]
def sgn (t b : Int) : Int := if 0 < b then cut t b else cut (0 - t) (0 - b)
theorem c9 (d : Nat) {t b : Int} {n : Nat} (h : Hv) (hb : Bd n b) (hn : n ≤ 1000) (nz : b ≠ 0) : rn (d + 2) 9 [.int t, .int b] h = .ok (.int (sgn t b)) h := by
  rw [q9]
  unfold b9 sgn
  by_cases z : 0 < b
  · simp only [VI.Q.ss0, VI.Q.ss1, VI.Q.sasg, VI.Q.spar, VI.Q.saug, VI.Q.sexp, VI.Q.sret, VI.Q.sretn, VI.Q.sbad, VI.Q.ifS_t, VI.Q.ifS_f, VI.Q.ifR_t, VI.Q.ifR_f, VI.Q.sife, VI.Q.sfor1, VI.Q.whl1, VI.Q.lcGo_fix, VI.Q.lc, VI.Q.lcF0, VI.Q.noX_ok, VI.Q.wk_fix, VI.Q.wk_live,  VI.Q.l0, VI.Q.l1, VI.Q.dn0, VI.Q.dn1, VI.Q.con, VI.Q.var, VI.Q.glo, VI.Q.bin, VI.Q.negV_int, VI.Q.neg, VI.Q.nt, VI.Q.ntT, VI.Q.andE, VI.Q.orE, VI.Q.andTt, VI.Q.orTt, VI.Q.andV1, VI.Q.andV2, VI.Q.orV1, VI.Q.orV2, VI.Q.andT0, VI.Q.andT1, VI.Q.orT0, VI.Q.orT1, VI.Q.cmpE, VI.Q.cmpTt, VI.Q.chnTt, VI.Q.chnE, VI.Q.ifeE, VI.Q.tup, VI.Q.lst, VI.Q.call, VI.Q.callT, VI.Q.callk, VI.Q.bi, VI.Q.biT, VI.Q.isi, VI.Q.isiT, VI.Q.ix, VI.Q.bm, VI.Q.getv0, VI.Q.getv1, VI.Q.set0, VI.Q.set1, VI.Q.put_nm, VI.Q.put_tup, VI.Q.tg0, VI.Q.tg1, VI.Q.fin_nx, VI.Q.fin_rt, VI.Q.lift1, VI.Q.of1, VI.Q.o_add, VI.Q.o_sub, VI.Q.o_aadd, VI.Q.o_lt, VI.Q.o_le, VI.Q.o_gt, VI.Q.o_ge, VI.Q.o_eq, VI.Q.o_ne, VI.Q.o_eq2, VI.Q.o_ne2, VI.Q.tr_b, VI.Q.tr_i, VI.Q.b_abs, VI.Q.b_max2, VI.Q.b_max3, VI.Q.b_min2, VI.Q.b_intb, VI.Q.b_lent, VI.Q.it0, VI.Q.it1, VI.Q.isI, VI.Q.isB, VI.Q.isT, VI.Q.ap0, VI.Q.ap1, VI.R.bind_ok, VI.R.toS_ok, VI.RS.seq_nx, VI.RS.seq_rt, VI.RS.seq_fail, VI.R.bind_fail, VI.R.toS_fail, VI.forFix, VI.rngL, VI.loopR_nx, VI.loopR_rt, dT z, c6 d t b h (hb.fdiv hn z), if_pos z]
  · have hb' : Bd n (0 - b) := by unfold Bd at *; omega
    simp only [VI.Q.ss0, VI.Q.ss1, VI.Q.sasg, VI.Q.spar, VI.Q.saug, VI.Q.sexp, VI.Q.sret, VI.Q.sretn, VI.Q.sbad, VI.Q.ifS_t, VI.Q.ifS_f, VI.Q.ifR_t, VI.Q.ifR_f, VI.Q.sife, VI.Q.sfor1, VI.Q.whl1, VI.Q.lcGo_fix, VI.Q.lc, VI.Q.lcF0, VI.Q.noX_ok, VI.Q.wk_fix, VI.Q.wk_live,  VI.Q.l0, VI.Q.l1, VI.Q.dn0, VI.Q.dn1, VI.Q.con, VI.Q.var, VI.Q.glo, VI.Q.bin, VI.Q.negV_int, VI.Q.neg, VI.Q.nt, VI.Q.ntT, VI.Q.andE, VI.Q.orE, VI.Q.andTt, VI.Q.orTt, VI.Q.andV1, VI.Q.andV2, VI.Q.orV1, VI.Q.orV2, VI.Q.andT0, VI.Q.andT1, VI.Q.orT0, VI.Q.orT1, VI.Q.cmpE, VI.Q.cmpTt, VI.Q.chnTt, VI.Q.chnE, VI.Q.ifeE, VI.Q.tup, VI.Q.lst, VI.Q.call, VI.Q.callT, VI.Q.callk, VI.Q.bi, VI.Q.biT, VI.Q.isi, VI.Q.isiT, VI.Q.ix, VI.Q.bm, VI.Q.getv0, VI.Q.getv1, VI.Q.set0, VI.Q.set1, VI.Q.put_nm, VI.Q.put_tup, VI.Q.tg0, VI.Q.tg1, VI.Q.fin_nx, VI.Q.fin_rt, VI.Q.lift1, VI.Q.of1, VI.Q.o_add, VI.Q.o_sub, VI.Q.o_aadd, VI.Q.o_lt, VI.Q.o_le, VI.Q.o_gt, VI.Q.o_ge, VI.Q.o_eq, VI.Q.o_ne, VI.Q.o_eq2, VI.Q.o_ne2, VI.Q.tr_b, VI.Q.tr_i, VI.Q.b_abs, VI.Q.b_max2, VI.Q.b_max3, VI.Q.b_min2, VI.Q.b_intb, VI.Q.b_lent, VI.Q.it0, VI.Q.it1, VI.Q.isI, VI.Q.isB, VI.Q.isT, VI.Q.ap0, VI.Q.ap1, VI.R.bind_ok, VI.R.toS_ok, VI.RS.seq_nx, VI.RS.seq_rt, VI.RS.seq_fail, VI.R.bind_fail, VI.R.toS_fail, VI.forFix, VI.rngL, VI.loopR_nx, VI.loopR_rt, dF z, c6 d (0 - t) (0 - b) h (hb'.fdiv hn (by omega)), if_neg z]
theorem c10 (d : Nat) {f g k : Int} {s t n m : Nat} (h : Hv) (b1 : Bd n f) (b2 : Bd m g) (hn : n ≤ 1000) (hm : m ≤ 1000) (hs : s ≤ 60) (ht : t ≤ 60) (bk : Bd 0 k) (o : (ats f s (max s t) + k * ats g t (max s t)).natAbs < FIG) :
    rn (d + 4) 10 [nm f s, nm g t, .int k] h = .ok (nm (ats f s (max s t) + k * ats g t (max s t)) (max s t)) h := by
  rw [q10]
  unfold b10
  have bm : VI.mulOk k (ats g t (max s t)) = true := by
    unfold VI.mulOk
    have : k.natAbs ≤ 1 := bk
    rw [Bool.or_eq_true_iff]
    exact .inl (Hv.blt_t (by omega))
  simp only [VI.Q.ss0, VI.Q.ss1, VI.Q.sasg, VI.Q.spar, VI.Q.saug, VI.Q.sexp, VI.Q.sret, VI.Q.sretn, VI.Q.sbad, VI.Q.ifS_t, VI.Q.ifS_f, VI.Q.ifR_t, VI.Q.ifR_f, VI.Q.sife, VI.Q.sfor1, VI.Q.whl1, VI.Q.lcGo_fix, VI.Q.lc, VI.Q.lcF0, VI.Q.noX_ok, VI.Q.wk_fix, VI.Q.wk_live,  VI.Q.l0, VI.Q.l1, VI.Q.dn0, VI.Q.dn1, VI.Q.con, VI.Q.var, VI.Q.glo, VI.Q.bin, VI.Q.negV_int, VI.Q.neg, VI.Q.nt, VI.Q.ntT, VI.Q.andE, VI.Q.orE, VI.Q.andTt, VI.Q.orTt, VI.Q.andV1, VI.Q.andV2, VI.Q.orV1, VI.Q.orV2, VI.Q.andT0, VI.Q.andT1, VI.Q.orT0, VI.Q.orT1, VI.Q.cmpE, VI.Q.cmpTt, VI.Q.chnTt, VI.Q.chnE, VI.Q.ifeE, VI.Q.tup, VI.Q.lst, VI.Q.call, VI.Q.callT, VI.Q.callk, VI.Q.bi, VI.Q.biT, VI.Q.isi, VI.Q.isiT, VI.Q.ix, VI.Q.bm, VI.Q.getv0, VI.Q.getv1, VI.Q.set0, VI.Q.set1, VI.Q.put_nm, VI.Q.put_tup, VI.Q.tg0, VI.Q.tg1, VI.Q.fin_nx, VI.Q.fin_rt, VI.Q.lift1, VI.Q.of1, VI.Q.o_add, VI.Q.o_sub, VI.Q.o_aadd, VI.Q.o_lt, VI.Q.o_le, VI.Q.o_gt, VI.Q.o_ge, VI.Q.o_eq, VI.Q.o_ne, VI.Q.o_eq2, VI.Q.o_ne2, VI.Q.tr_b, VI.Q.tr_i, VI.Q.b_abs, VI.Q.b_max2, VI.Q.b_max3, VI.Q.b_min2, VI.Q.b_intb, VI.Q.b_lent, VI.Q.it0, VI.Q.it1, VI.Q.isI, VI.Q.isB, VI.Q.isT, VI.Q.ap0, VI.Q.ap1, VI.R.bind_ok, VI.R.toS_ok, VI.RS.seq_nx, VI.RS.seq_rt, VI.RS.seq_fail, VI.R.bind_fail, VI.R.toS_fail, VI.forFix, VI.rngL, VI.loopR_nx, VI.loopR_rt, imax_nat, c8 d h b1 hn (show s ≤ 1000 by omega) (show max s t ≤ 1000 by omega), c8 d h b2 hm (show t ≤ 1000 by omega) (show max s t ≤ 1000 by omega), VI.Q.o_mul _ _ _ bm, c7 (d + 2) h ⟨o, show max s t ≤ 60 by omega⟩]
theorem c11 (d : Nat) {f g : Int} {s t w n m : Nat} (h : Hv) (b1 : Bd n f) (b2 : Bd m g) (hn : n ≤ 400) (hm : m ≤ 400) (hs : s ≤ 30) (ht : t ≤ 30) (hw : w ≤ 60) (o : (ats (f * g) (s + t) (min (s + t) (max (max w s) t))).natAbs < FIG) :
    rn (d + 4) 11 [nm f s, nm g t, .int w] h = .ok (nm (ats (f * g) (s + t) (min (s + t) (max (max w s) t))) (min (s + t) (max (max w s) t))) h := by
  rw [q11]
  unfold b11
  simp only [VI.Q.ss0, VI.Q.ss1, VI.Q.sasg, VI.Q.spar, VI.Q.saug, VI.Q.sexp, VI.Q.sret, VI.Q.sretn, VI.Q.sbad, VI.Q.ifS_t, VI.Q.ifS_f, VI.Q.ifR_t, VI.Q.ifR_f, VI.Q.sife, VI.Q.sfor1, VI.Q.whl1, VI.Q.lcGo_fix, VI.Q.lc, VI.Q.lcF0, VI.Q.noX_ok, VI.Q.wk_fix, VI.Q.wk_live,  VI.Q.l0, VI.Q.l1, VI.Q.dn0, VI.Q.dn1, VI.Q.con, VI.Q.var, VI.Q.glo, VI.Q.bin, VI.Q.negV_int, VI.Q.neg, VI.Q.nt, VI.Q.ntT, VI.Q.andE, VI.Q.orE, VI.Q.andTt, VI.Q.orTt, VI.Q.andV1, VI.Q.andV2, VI.Q.orV1, VI.Q.orV2, VI.Q.andT0, VI.Q.andT1, VI.Q.orT0, VI.Q.orT1, VI.Q.cmpE, VI.Q.cmpTt, VI.Q.chnTt, VI.Q.chnE, VI.Q.ifeE, VI.Q.tup, VI.Q.lst, VI.Q.call, VI.Q.callT, VI.Q.callk, VI.Q.bi, VI.Q.biT, VI.Q.isi, VI.Q.isiT, VI.Q.ix, VI.Q.bm, VI.Q.getv0, VI.Q.getv1, VI.Q.set0, VI.Q.set1, VI.Q.put_nm, VI.Q.put_tup, VI.Q.tg0, VI.Q.tg1, VI.Q.fin_nx, VI.Q.fin_rt, VI.Q.lift1, VI.Q.of1, VI.Q.o_add, VI.Q.o_sub, VI.Q.o_aadd, VI.Q.o_lt, VI.Q.o_le, VI.Q.o_gt, VI.Q.o_ge, VI.Q.o_eq, VI.Q.o_ne, VI.Q.o_eq2, VI.Q.o_ne2, VI.Q.tr_b, VI.Q.tr_i, VI.Q.b_abs, VI.Q.b_max2, VI.Q.b_max3, VI.Q.b_min2, VI.Q.b_intb, VI.Q.b_lent, VI.Q.it0, VI.Q.it1, VI.Q.isI, VI.Q.isB, VI.Q.isT, VI.Q.ap0, VI.Q.ap1, VI.R.bind_ok, VI.R.toS_ok, VI.RS.seq_nx, VI.RS.seq_rt, VI.RS.seq_fail, VI.R.bind_fail, VI.R.toS_fail, VI.forFix, VI.rngL, VI.loopR_nx, VI.loopR_rt, imax_nat, imin_nat, add_nat, VI.Q.o_mul _ _ _ (b1.mulOk b2 (by omega) (by omega)), c8 d h (b1.mul b2) (by omega) (show s + t ≤ 1000 by omega) (show min (s + t) (max (max w s) t) ≤ 1000 by omega), c7 (d + 2) h ⟨o, show min (s + t) (max (max w s) t) ≤ 60 by omega⟩]
theorem c12 (d : Nat) {f g : Int} {s t w n m : Nat} (h : Hv) (b1 : Bd n f) (b2 : Bd m g) (hn : n ≤ 400) (hm : m ≤ 400) (hs : s ≤ 60) (ht : t ≤ 60) (hw : w ≤ 60) (nz : g ≠ 0) (o : (sgn (f * 10 ^ (w + t)) (g * 10 ^ s)).natAbs < FIG) :
    rn (d + 4) 12 [nm f s, nm g t, .int w] h = .ok (nm (sgn (f * 10 ^ (w + t)) (g * 10 ^ s)) w) h := by
  rw [q12]
  unfold b12
  have e1 : (g == 0) = false := by simpa using nz
  have nz2 : g * 10 ^ s ≠ 0 := Int.mul_ne_zero nz (Int.ne_of_gt (ten_pos s))
  simp only [VI.Q.ss0, VI.Q.ss1, VI.Q.sasg, VI.Q.spar, VI.Q.saug, VI.Q.sexp, VI.Q.sret, VI.Q.sretn, VI.Q.sbad, VI.Q.ifS_t, VI.Q.ifS_f, VI.Q.ifR_t, VI.Q.ifR_f, VI.Q.sife, VI.Q.sfor1, VI.Q.whl1, VI.Q.lcGo_fix, VI.Q.lc, VI.Q.lcF0, VI.Q.noX_ok, VI.Q.wk_fix, VI.Q.wk_live,  VI.Q.l0, VI.Q.l1, VI.Q.dn0, VI.Q.dn1, VI.Q.con, VI.Q.var, VI.Q.glo, VI.Q.bin, VI.Q.negV_int, VI.Q.neg, VI.Q.nt, VI.Q.ntT, VI.Q.andE, VI.Q.orE, VI.Q.andTt, VI.Q.orTt, VI.Q.andV1, VI.Q.andV2, VI.Q.orV1, VI.Q.orV2, VI.Q.andT0, VI.Q.andT1, VI.Q.orT0, VI.Q.orT1, VI.Q.cmpE, VI.Q.cmpTt, VI.Q.chnTt, VI.Q.chnE, VI.Q.ifeE, VI.Q.tup, VI.Q.lst, VI.Q.call, VI.Q.callT, VI.Q.callk, VI.Q.bi, VI.Q.biT, VI.Q.isi, VI.Q.isiT, VI.Q.ix, VI.Q.bm, VI.Q.getv0, VI.Q.getv1, VI.Q.set0, VI.Q.set1, VI.Q.put_nm, VI.Q.put_tup, VI.Q.tg0, VI.Q.tg1, VI.Q.fin_nx, VI.Q.fin_rt, VI.Q.lift1, VI.Q.of1, VI.Q.o_add, VI.Q.o_sub, VI.Q.o_aadd, VI.Q.o_lt, VI.Q.o_le, VI.Q.o_gt, VI.Q.o_ge, VI.Q.o_eq, VI.Q.o_ne, VI.Q.o_eq2, VI.Q.o_ne2, VI.Q.tr_b, VI.Q.tr_i, VI.Q.b_abs, VI.Q.b_max2, VI.Q.b_max3, VI.Q.b_min2, VI.Q.b_intb, VI.Q.b_lent, VI.Q.it0, VI.Q.it1, VI.Q.isI, VI.Q.isB, VI.Q.isT, VI.Q.ap0, VI.Q.ap1, VI.R.bind_ok, VI.R.toS_ok, VI.RS.seq_nx, VI.RS.seq_rt, VI.RS.seq_fail, VI.R.bind_fail, VI.R.toS_fail, VI.forFix, VI.rngL, VI.loopR_nx, VI.loopR_rt, e1, add_nat, c5 (d + 1) (w + t) h (by omega), c5 (d + 1) s h (by omega), VI.Q.o_mul _ _ _ (b1.mulOk (Bd.ten (w + t)) (by omega) (by omega)), VI.Q.o_mul _ _ _ (b2.mulOk (Bd.ten s) (by omega) (by omega)), c9 (d + 1) h (b2.mul (Bd.ten s)) (by omega) nz2, c7 (d + 2) h ⟨o, hw⟩]
theorem c13 (d : Nat) {f : Int} {s w e n : Nat} (h : Hv) (b1 : Bd n f) (hn : n ≤ 18) (hs : s ≤ 30) (hw : w ≤ 60) (he : e ≤ 10) (o : (ats (f ^ e) (e * s) (min (e * s) (max w s))).natAbs < FIG) (be : Bd 1000 (f ^ e)) :
    rn (d + 4) 13 [nm f s, nm e 0, .int w] h = .ok (nm (ats (f ^ e) (e * s) (min (e * s) (max w s))) (min (e * s) (max w s))) h := by
  rw [q13]
  unfold b13
  have e0 : ((0 : Nat) : Int) = 0 := rfl
  have e1 : (((e : Int).natAbs : Nat) : Int) / 10 ^ 0 = (e : Int) := by simp
  have e2 : (((e : Int).natAbs : Nat) : Int) % 10 ^ 0 = 0 := by simp
  have e3 : fdivOk ((10 : Int) ^ 0) = true := (Bd.ten 0).fdiv (by omega) (ten_pos 0)
  have e4 : decide ((0 : Int) < 0) = false := rfl
  have e5 : decide ((99 : Int) < (e : Int)) = false := dF (by omega)
  have e6 : decide ((0 : Int) ≤ (e : Int)) = true := dT (by omega)
  have hf : Nat.blt f.natAbs 18446744073709551616 = true := by
    have h2 : 10 ^ n ≤ 10 ^ 18 := Nat.pow_le_pow_right (by omega) hn
    exact Hv.blt_t (Nat.lt_of_le_of_lt (Nat.le_trans b1 h2) (by decide))
  have hes : e * s ≤ 300 := by
    have := Nat.mul_le_mul he hs
    omega
  have hmo : VI.mulOk (e : Int) (s : Int) = true := by
    unfold VI.mulOk
    rw [Bool.or_eq_true_iff]
    exact .inl (Hv.blt_t (by omega))
  simp only [VI.Q.ss0, VI.Q.ss1, VI.Q.sasg, VI.Q.spar, VI.Q.saug, VI.Q.sexp, VI.Q.sret, VI.Q.sretn, VI.Q.sbad, VI.Q.ifS_t, VI.Q.ifS_f, VI.Q.ifR_t, VI.Q.ifR_f, VI.Q.sife, VI.Q.sfor1, VI.Q.whl1, VI.Q.lcGo_fix, VI.Q.lc, VI.Q.lcF0, VI.Q.noX_ok, VI.Q.wk_fix, VI.Q.wk_live,  VI.Q.l0, VI.Q.l1, VI.Q.dn0, VI.Q.dn1, VI.Q.con, VI.Q.var, VI.Q.glo, VI.Q.bin, VI.Q.negV_int, VI.Q.neg, VI.Q.nt, VI.Q.ntT, VI.Q.andE, VI.Q.orE, VI.Q.andTt, VI.Q.orTt, VI.Q.andV1, VI.Q.andV2, VI.Q.orV1, VI.Q.orV2, VI.Q.andT0, VI.Q.andT1, VI.Q.orT0, VI.Q.orT1, VI.Q.cmpE, VI.Q.cmpTt, VI.Q.chnTt, VI.Q.chnE, VI.Q.ifeE, VI.Q.tup, VI.Q.lst, VI.Q.call, VI.Q.callT, VI.Q.callk, VI.Q.bi, VI.Q.biT, VI.Q.isi, VI.Q.isiT, VI.Q.ix, VI.Q.bm, VI.Q.getv0, VI.Q.getv1, VI.Q.set0, VI.Q.set1, VI.Q.put_nm, VI.Q.put_tup, VI.Q.tg0, VI.Q.tg1, VI.Q.fin_nx, VI.Q.fin_rt, VI.Q.lift1, VI.Q.of1, VI.Q.o_add, VI.Q.o_sub, VI.Q.o_aadd, VI.Q.o_lt, VI.Q.o_le, VI.Q.o_gt, VI.Q.o_ge, VI.Q.o_eq, VI.Q.o_ne, VI.Q.o_eq2, VI.Q.o_ne2, VI.Q.tr_b, VI.Q.tr_i, VI.Q.b_abs, VI.Q.b_max2, VI.Q.b_max3, VI.Q.b_min2, VI.Q.b_intb, VI.Q.b_lent, VI.Q.it0, VI.Q.it1, VI.Q.isI, VI.Q.isB, VI.Q.isT, VI.Q.ap0, VI.Q.ap1, VI.R.bind_ok, VI.R.toS_ok, VI.RS.seq_nx, VI.RS.seq_rt, VI.RS.seq_fail, VI.R.bind_fail, VI.R.toS_fail, VI.forFix, VI.rngL, VI.loopR_nx, VI.loopR_rt, c5 (d + 1) 0 h (by omega), VI.Q.b_divmod _ _ _ e3, e1, e2, e4, e5, e6, c4 (d + 2) f e h hf (by omega), VI.Q.o_mul _ _ _ hmo, mul_nat, imax_nat, imin_nat, c8 d h be (by omega) (show e * s ≤ 1000 by omega) (show min (e * s) (max w s) ≤ 1000 by omega), c7 (d + 2) h ⟨o, show min (e * s) (max w s) ≤ 60 by omega⟩]
def cmpI (x y : Int) : Int := b2i (decide (y < x)) - b2i (decide (x < y))
theorem c16 (d : Nat) {f g : Int} {s t n m : Nat} (h : Hv) (b1 : Bd n f) (b2 : Bd m g) (hn : n ≤ 1000) (hm : m ≤ 1000) (hs : s ≤ 60) (ht : t ≤ 60) : rn (d + 3) 16 [nm f s, nm g t] h = .ok (.int (cmpI (f * 10 ^ t) (g * 10 ^ s))) h := by
  rw [q16]
  unfold b16 cmpI
  simp only [VI.Q.ss0, VI.Q.ss1, VI.Q.sasg, VI.Q.spar, VI.Q.saug, VI.Q.sexp, VI.Q.sret, VI.Q.sretn, VI.Q.sbad, VI.Q.ifS_t, VI.Q.ifS_f, VI.Q.ifR_t, VI.Q.ifR_f, VI.Q.sife, VI.Q.sfor1, VI.Q.whl1, VI.Q.lcGo_fix, VI.Q.lc, VI.Q.lcF0, VI.Q.noX_ok, VI.Q.wk_fix, VI.Q.wk_live,  VI.Q.l0, VI.Q.l1, VI.Q.dn0, VI.Q.dn1, VI.Q.con, VI.Q.var, VI.Q.glo, VI.Q.bin, VI.Q.negV_int, VI.Q.neg, VI.Q.nt, VI.Q.ntT, VI.Q.andE, VI.Q.orE, VI.Q.andTt, VI.Q.orTt, VI.Q.andV1, VI.Q.andV2, VI.Q.orV1, VI.Q.orV2, VI.Q.andT0, VI.Q.andT1, VI.Q.orT0, VI.Q.orT1, VI.Q.cmpE, VI.Q.cmpTt, VI.Q.chnTt, VI.Q.chnE, VI.Q.ifeE, VI.Q.tup, VI.Q.lst, VI.Q.call, VI.Q.callT, VI.Q.callk, VI.Q.bi, VI.Q.biT, VI.Q.isi, VI.Q.isiT, VI.Q.ix, VI.Q.bm, VI.Q.getv0, VI.Q.getv1, VI.Q.set0, VI.Q.set1, VI.Q.put_nm, VI.Q.put_tup, VI.Q.tg0, VI.Q.tg1, VI.Q.fin_nx, VI.Q.fin_rt, VI.Q.lift1, VI.Q.of1, VI.Q.o_add, VI.Q.o_sub, VI.Q.o_aadd, VI.Q.o_lt, VI.Q.o_le, VI.Q.o_gt, VI.Q.o_ge, VI.Q.o_eq, VI.Q.o_ne, VI.Q.o_eq2, VI.Q.o_ne2, VI.Q.tr_b, VI.Q.tr_i, VI.Q.b_abs, VI.Q.b_max2, VI.Q.b_max3, VI.Q.b_min2, VI.Q.b_intb, VI.Q.b_lent, VI.Q.it0, VI.Q.it1, VI.Q.isI, VI.Q.isB, VI.Q.isT, VI.Q.ap0, VI.Q.ap1, VI.R.bind_ok, VI.R.toS_ok, VI.RS.seq_nx, VI.RS.seq_rt, VI.RS.seq_fail, VI.R.bind_fail, VI.R.toS_fail, VI.forFix, VI.rngL, VI.loopR_nx, VI.loopR_rt, c5 d t h (by omega), c5 d s h (by omega), VI.Q.o_mul _ _ _ (b1.mulOk (Bd.ten t) (by omega) (by omega)), VI.Q.o_mul _ _ _ (b2.mulOk (Bd.ten s) (by omega) (by omega))]

/-! ### square -/
abbrev C1 (d : Nat) : Den := den (Gof T) (rn d) (.cmp .le (.bin .mul (.var 2) (.var 2)) (.var 0))
abbrev B1 (d : Nat) : DenS := denSs (Gof T) (rn d) [.aug 2 .mul (.con (.int 2))]
abbrev C2 (d : Nat) : Den := den (Gof T) (rn d) (.cmp .gt (.bin .sub (.var 2) (.var 1)) (.con (.int 1)))
abbrev B2 (d : Nat) : DenS := denSs (Gof T) (rn d) [.asg (.nm 3) (.bin .fdiv (.bin .add (.var 1) (.var 2)) (.con (.int 2))), .ife (.cmp .le (.bin .mul (.var 3) (.var 3)) (.var 0)) [.asg (.nm 1) (.var 3)] [.asg (.nm 2) (.var 3)]]
theorem natOk {a b : Nat} (ha : a ≤ 10 ^ 200) (hb : b ≤ 10 ^ 200) : VI.mulOk (a : Int) (b : Int) = true :=
  Bd.mulOk (n := 200) (m := 200) (by unfold Bd; simpa using ha) (by unfold Bd; simpa using hb) (by omega) (by omega)
theorem sq1 (d n : Nat) (h : Hv) (w x : Option VV) : ∀ (j fuel hi : Nat), n < hi * hi * 4 ^ j → 0 < hi → hi * 2 ^ j ≤ 10 ^ 150 → j < fuel → ∃ hi' : Nat, whlL (C1 d) (B1 d) fuel [some (.int n), w, some (.int hi), x] h = .nx [some (.int n), w, some (.int hi'), x] h ∧ n < hi' * hi' ∧ 0 < hi' ∧ hi' ≤ 10 ^ 150 := by
  intro j
  induction j with
  | zero =>
    intro fuel hi h1 h2 h3 h4
    obtain ⟨k, rfl⟩ : ∃ k, fuel = k + 1 := ⟨fuel - 1, by omega⟩
    have h1 : n < hi * hi := by simpa using h1
    have h3 : hi ≤ 10 ^ 150 := by simpa using h3
    have m := natOk (a := hi) (b := hi) (Nat.le_trans h3 (by decide +kernel)) (Nat.le_trans h3 (by decide +kernel))
    have e : decide ((hi : Int) * (hi : Int) ≤ (n : Int)) = false := dF (by rw [mul_nat]; omega)
    refine ⟨hi, ?_, h1, h2, h3⟩
    simp only [VI.Q.ss0, VI.Q.ss1, VI.Q.sasg, VI.Q.spar, VI.Q.saug, VI.Q.sexp, VI.Q.sret, VI.Q.sretn, VI.Q.sbad, VI.Q.ifS_t, VI.Q.ifS_f, VI.Q.ifR_t, VI.Q.ifR_f, VI.Q.sife, VI.Q.sfor1, VI.Q.whl1, VI.Q.lcGo_fix, VI.Q.lc, VI.Q.lcF0, VI.Q.noX_ok, VI.Q.wk_fix, VI.Q.wk_live,  VI.Q.l0, VI.Q.l1, VI.Q.dn0, VI.Q.dn1, VI.Q.con, VI.Q.var, VI.Q.glo, VI.Q.bin, VI.Q.negV_int, VI.Q.neg, VI.Q.nt, VI.Q.ntT, VI.Q.andE, VI.Q.orE, VI.Q.andTt, VI.Q.orTt, VI.Q.andV1, VI.Q.andV2, VI.Q.orV1, VI.Q.orV2, VI.Q.andT0, VI.Q.andT1, VI.Q.orT0, VI.Q.orT1, VI.Q.cmpE, VI.Q.cmpTt, VI.Q.chnTt, VI.Q.chnE, VI.Q.ifeE, VI.Q.tup, VI.Q.lst, VI.Q.call, VI.Q.callT, VI.Q.callk, VI.Q.bi, VI.Q.biT, VI.Q.isi, VI.Q.isiT, VI.Q.ix, VI.Q.bm, VI.Q.getv0, VI.Q.getv1, VI.Q.set0, VI.Q.set1, VI.Q.put_nm, VI.Q.put_tup, VI.Q.tg0, VI.Q.tg1, VI.Q.fin_nx, VI.Q.fin_rt, VI.Q.lift1, VI.Q.of1, VI.Q.o_add, VI.Q.o_sub, VI.Q.o_aadd, VI.Q.o_lt, VI.Q.o_le, VI.Q.o_gt, VI.Q.o_ge, VI.Q.o_eq, VI.Q.o_ne, VI.Q.o_eq2, VI.Q.o_ne2, VI.Q.tr_b, VI.Q.tr_i, VI.Q.b_abs, VI.Q.b_max2, VI.Q.b_max3, VI.Q.b_min2, VI.Q.b_intb, VI.Q.b_lent, VI.Q.it0, VI.Q.it1, VI.Q.isI, VI.Q.isB, VI.Q.isT, VI.Q.ap0, VI.Q.ap1, VI.R.bind_ok, VI.R.toS_ok, VI.RS.seq_nx, VI.RS.seq_rt, VI.RS.seq_fail, VI.R.bind_fail, VI.R.toS_fail, VI.forFix, VI.rngL, VI.loopR_nx, VI.loopR_rt, VI.Q.o_mul _ _ _ m, e]
  | succ j ih =>
    intro fuel hi h1 h2 h3 h4
    obtain ⟨k, rfl⟩ : ∃ k, fuel = k + 1 := ⟨fuel - 1, by omega⟩
    have h3' : hi ≤ 10 ^ 150 := Nat.le_trans (Nat.le_mul_of_pos_right hi (Nat.pow_pos (by omega))) h3
    have m := natOk (a := hi) (b := hi) (Nat.le_trans h3' (by decide +kernel)) (Nat.le_trans h3' (by decide +kernel))
    by_cases z : hi * hi ≤ n
    · have e : decide ((hi : Int) * (hi : Int) ≤ (n : Int)) = true := dT (by rw [mul_nat]; omega)
      have m2 : VI.mulOk (hi : Int) 2 = true := natOk (a := hi) (b := 2) (Nat.le_trans h3' (by decide +kernel)) (by decide +kernel)
      obtain ⟨hi', e1, r1, r2, r3⟩ := ih k (hi * 2) (by rw [Nat.pow_succ] at h1; grind) (by omega) (by rw [Nat.pow_succ] at h3; grind) (by omega)
      refine ⟨hi', ?_, r1, r2, r3⟩
      have e2 : (hi : Int) * 2 = ((hi * 2 : Nat) : Int) := rfl
      simp only [VI.Q.ss0, VI.Q.ss1, VI.Q.sasg, VI.Q.spar, VI.Q.saug, VI.Q.sexp, VI.Q.sret, VI.Q.sretn, VI.Q.sbad, VI.Q.ifS_t, VI.Q.ifS_f, VI.Q.ifR_t, VI.Q.ifR_f, VI.Q.sife, VI.Q.sfor1, VI.Q.whl1, VI.Q.lcGo_fix, VI.Q.lc, VI.Q.lcF0, VI.Q.noX_ok, VI.Q.wk_fix, VI.Q.wk_live,  VI.Q.l0, VI.Q.l1, VI.Q.dn0, VI.Q.dn1, VI.Q.con, VI.Q.var, VI.Q.glo, VI.Q.bin, VI.Q.negV_int, VI.Q.neg, VI.Q.nt, VI.Q.ntT, VI.Q.andE, VI.Q.orE, VI.Q.andTt, VI.Q.orTt, VI.Q.andV1, VI.Q.andV2, VI.Q.orV1, VI.Q.orV2, VI.Q.andT0, VI.Q.andT1, VI.Q.orT0, VI.Q.orT1, VI.Q.cmpE, VI.Q.cmpTt, VI.Q.chnTt, VI.Q.chnE, VI.Q.ifeE, VI.Q.tup, VI.Q.lst, VI.Q.call, VI.Q.callT, VI.Q.callk, VI.Q.bi, VI.Q.biT, VI.Q.isi, VI.Q.isiT, VI.Q.ix, VI.Q.bm, VI.Q.getv0, VI.Q.getv1, VI.Q.set0, VI.Q.set1, VI.Q.put_nm, VI.Q.put_tup, VI.Q.tg0, VI.Q.tg1, VI.Q.fin_nx, VI.Q.fin_rt, VI.Q.lift1, VI.Q.of1, VI.Q.o_add, VI.Q.o_sub, VI.Q.o_aadd, VI.Q.o_lt, VI.Q.o_le, VI.Q.o_gt, VI.Q.o_ge, VI.Q.o_eq, VI.Q.o_ne, VI.Q.o_eq2, VI.Q.o_ne2, VI.Q.tr_b, VI.Q.tr_i, VI.Q.b_abs, VI.Q.b_max2, VI.Q.b_max3, VI.Q.b_min2, VI.Q.b_intb, VI.Q.b_lent, VI.Q.it0, VI.Q.it1, VI.Q.isI, VI.Q.isB, VI.Q.isT, VI.Q.ap0, VI.Q.ap1, VI.R.bind_ok, VI.R.toS_ok, VI.RS.seq_nx, VI.RS.seq_rt, VI.RS.seq_fail, VI.R.bind_fail, VI.R.toS_fail, VI.forFix, VI.rngL, VI.loopR_nx, VI.loopR_rt, VI.Q.o_mul _ _ _ m, e, VI.Q.o_amul _ _ _ m2, e2, e1]
    · have e : decide ((hi : Int) * (hi : Int) ≤ (n : Int)) = false := dF (by rw [mul_nat]; omega)
      refine ⟨hi, ?_, by omega, h2, h3'⟩
      simp only [VI.Q.ss0, VI.Q.ss1, VI.Q.sasg, VI.Q.spar, VI.Q.saug, VI.Q.sexp, VI.Q.sret, VI.Q.sretn, VI.Q.sbad, VI.Q.ifS_t, VI.Q.ifS_f, VI.Q.ifR_t, VI.Q.ifR_f, VI.Q.sife, VI.Q.sfor1, VI.Q.whl1, VI.Q.lcGo_fix, VI.Q.lc, VI.Q.lcF0, VI.Q.noX_ok, VI.Q.wk_fix, VI.Q.wk_live,  VI.Q.l0, VI.Q.l1, VI.Q.dn0, VI.Q.dn1, VI.Q.con, VI.Q.var, VI.Q.glo, VI.Q.bin, VI.Q.negV_int, VI.Q.neg, VI.Q.nt, VI.Q.ntT, VI.Q.andE, VI.Q.orE, VI.Q.andTt, VI.Q.orTt, VI.Q.andV1, VI.Q.andV2, VI.Q.orV1, VI.Q.orV2, VI.Q.andT0, VI.Q.andT1, VI.Q.orT0, VI.Q.orT1, VI.Q.cmpE, VI.Q.cmpTt, VI.Q.chnTt, VI.Q.chnE, VI.Q.ifeE, VI.Q.tup, VI.Q.lst, VI.Q.call, VI.Q.callT, VI.Q.callk, VI.Q.bi, VI.Q.biT, VI.Q.isi, VI.Q.isiT, VI.Q.ix, VI.Q.bm, VI.Q.getv0, VI.Q.getv1, VI.Q.set0, VI.Q.set1, VI.Q.put_nm, VI.Q.put_tup, VI.Q.tg0, VI.Q.tg1, VI.Q.fin_nx, VI.Q.fin_rt, VI.Q.lift1, VI.Q.of1, VI.Q.o_add, VI.Q.o_sub, VI.Q.o_aadd, VI.Q.o_lt, VI.Q.o_le, VI.Q.o_gt, VI.Q.o_ge, VI.Q.o_eq, VI.Q.o_ne, VI.Q.o_eq2, VI.Q.o_ne2, VI.Q.tr_b, VI.Q.tr_i, VI.Q.b_abs, VI.Q.b_max2, VI.Q.b_max3, VI.Q.b_min2, VI.Q.b_intb, VI.Q.b_lent, VI.Q.it0, VI.Q.it1, VI.Q.isI, VI.Q.isB, VI.Q.isT, VI.Q.ap0, VI.Q.ap1, VI.R.bind_ok, VI.R.toS_ok, VI.RS.seq_nx, VI.RS.seq_rt, VI.RS.seq_fail, VI.R.bind_fail, VI.R.toS_fail, VI.forFix, VI.rngL, VI.loopR_nx, VI.loopR_rt, VI.Q.o_mul _ _ _ m, e]
theorem sq2 (d n : Nat) (h : Hv) : ∀ (j fuel lo hi : Nat) (x : Option VV), lo * lo ≤ n → n < hi * hi → hi ≤ lo + 2 ^ j → lo < hi → hi ≤ 10 ^ 150 → j < fuel → ∃ (lo' : Nat) (y x' : Option VV), whlL (C2 d) (B2 d) fuel [some (.int n), some (.int lo), some (.int hi), x] h = .nx [some (.int n), some (.int lo'), y, x'] h ∧ lo' * lo' ≤ n ∧ n < (lo' + 1) * (lo' + 1) := by
  intro j
  induction j with
  | zero =>
    intro fuel lo hi x h1 h2 h3 h4 h5 h6
    obtain ⟨k, rfl⟩ : ∃ k, fuel = k + 1 := ⟨fuel - 1, by omega⟩
    have e0 : hi = lo + 1 := by simp at h3; omega
    have e : decide ((1 : Int) < (hi : Int) - (lo : Int)) = false := dF (by omega)
    refine ⟨lo, some (.int hi), x, ?_, h1, by rw [← e0]; exact h2⟩
    simp only [VI.Q.ss0, VI.Q.ss1, VI.Q.sasg, VI.Q.spar, VI.Q.saug, VI.Q.sexp, VI.Q.sret, VI.Q.sretn, VI.Q.sbad, VI.Q.ifS_t, VI.Q.ifS_f, VI.Q.ifR_t, VI.Q.ifR_f, VI.Q.sife, VI.Q.sfor1, VI.Q.whl1, VI.Q.lcGo_fix, VI.Q.lc, VI.Q.lcF0, VI.Q.noX_ok, VI.Q.wk_fix, VI.Q.wk_live,  VI.Q.l0, VI.Q.l1, VI.Q.dn0, VI.Q.dn1, VI.Q.con, VI.Q.var, VI.Q.glo, VI.Q.bin, VI.Q.negV_int, VI.Q.neg, VI.Q.nt, VI.Q.ntT, VI.Q.andE, VI.Q.orE, VI.Q.andTt, VI.Q.orTt, VI.Q.andV1, VI.Q.andV2, VI.Q.orV1, VI.Q.orV2, VI.Q.andT0, VI.Q.andT1, VI.Q.orT0, VI.Q.orT1, VI.Q.cmpE, VI.Q.cmpTt, VI.Q.chnTt, VI.Q.chnE, VI.Q.ifeE, VI.Q.tup, VI.Q.lst, VI.Q.call, VI.Q.callT, VI.Q.callk, VI.Q.bi, VI.Q.biT, VI.Q.isi, VI.Q.isiT, VI.Q.ix, VI.Q.bm, VI.Q.getv0, VI.Q.getv1, VI.Q.set0, VI.Q.set1, VI.Q.put_nm, VI.Q.put_tup, VI.Q.tg0, VI.Q.tg1, VI.Q.fin_nx, VI.Q.fin_rt, VI.Q.lift1, VI.Q.of1, VI.Q.o_add, VI.Q.o_sub, VI.Q.o_aadd, VI.Q.o_lt, VI.Q.o_le, VI.Q.o_gt, VI.Q.o_ge, VI.Q.o_eq, VI.Q.o_ne, VI.Q.o_eq2, VI.Q.o_ne2, VI.Q.tr_b, VI.Q.tr_i, VI.Q.b_abs, VI.Q.b_max2, VI.Q.b_max3, VI.Q.b_min2, VI.Q.b_intb, VI.Q.b_lent, VI.Q.it0, VI.Q.it1, VI.Q.isI, VI.Q.isB, VI.Q.isT, VI.Q.ap0, VI.Q.ap1, VI.R.bind_ok, VI.R.toS_ok, VI.RS.seq_nx, VI.RS.seq_rt, VI.RS.seq_fail, VI.R.bind_fail, VI.R.toS_fail, VI.forFix, VI.rngL, VI.loopR_nx, VI.loopR_rt, e]
  | succ j ih =>
    intro fuel lo hi x h1 h2 h3 h4 h5 h6
    obtain ⟨k, rfl⟩ : ∃ k, fuel = k + 1 := ⟨fuel - 1, by omega⟩
    by_cases z : lo + 1 < hi
    · have e : decide ((1 : Int) < (hi : Int) - (lo : Int)) = true := dT (by omega)
      have ef : fdivOk 2 = true := rfl
      have em : ((lo : Int) + (hi : Int)) / 2 = (((lo + hi) / 2 : Nat) : Int) := by omega
      rw [Nat.pow_succ] at h3
      generalize hm : (lo + hi) / 2 = mid at em
      have b1 : lo < mid := by omega
      have b2 : mid < hi := by omega
      have m := natOk (a := mid) (b := mid) (Nat.le_trans (Nat.le_of_lt b2) (Nat.le_trans h5 (by decide +kernel))) (Nat.le_trans (Nat.le_of_lt b2) (Nat.le_trans h5 (by decide +kernel)))
      by_cases y : mid * mid ≤ n
      · have e2 : decide ((mid : Int) * (mid : Int) ≤ (n : Int)) = true := dT (by rw [mul_nat]; omega)
        obtain ⟨lo', yy, x', e1, r1, r2⟩ := ih k mid hi (some (.int mid)) y h2 (by omega) b2 h5 (by omega)
        refine ⟨lo', yy, x', ?_, r1, r2⟩
        simp only [VI.Q.ss0, VI.Q.ss1, VI.Q.sasg, VI.Q.spar, VI.Q.saug, VI.Q.sexp, VI.Q.sret, VI.Q.sretn, VI.Q.sbad, VI.Q.ifS_t, VI.Q.ifS_f, VI.Q.ifR_t, VI.Q.ifR_f, VI.Q.sife, VI.Q.sfor1, VI.Q.whl1, VI.Q.lcGo_fix, VI.Q.lc, VI.Q.lcF0, VI.Q.noX_ok, VI.Q.wk_fix, VI.Q.wk_live,  VI.Q.l0, VI.Q.l1, VI.Q.dn0, VI.Q.dn1, VI.Q.con, VI.Q.var, VI.Q.glo, VI.Q.bin, VI.Q.negV_int, VI.Q.neg, VI.Q.nt, VI.Q.ntT, VI.Q.andE, VI.Q.orE, VI.Q.andTt, VI.Q.orTt, VI.Q.andV1, VI.Q.andV2, VI.Q.orV1, VI.Q.orV2, VI.Q.andT0, VI.Q.andT1, VI.Q.orT0, VI.Q.orT1, VI.Q.cmpE, VI.Q.cmpTt, VI.Q.chnTt, VI.Q.chnE, VI.Q.ifeE, VI.Q.tup, VI.Q.lst, VI.Q.call, VI.Q.callT, VI.Q.callk, VI.Q.bi, VI.Q.biT, VI.Q.isi, VI.Q.isiT, VI.Q.ix, VI.Q.bm, VI.Q.getv0, VI.Q.getv1, VI.Q.set0, VI.Q.set1, VI.Q.put_nm, VI.Q.put_tup, VI.Q.tg0, VI.Q.tg1, VI.Q.fin_nx, VI.Q.fin_rt, VI.Q.lift1, VI.Q.of1, VI.Q.o_add, VI.Q.o_sub, VI.Q.o_aadd, VI.Q.o_lt, VI.Q.o_le, VI.Q.o_gt, VI.Q.o_ge, VI.Q.o_eq, VI.Q.o_ne, VI.Q.o_eq2, VI.Q.o_ne2, VI.Q.tr_b, VI.Q.tr_i, VI.Q.b_abs, VI.Q.b_max2, VI.Q.b_max3, VI.Q.b_min2, VI.Q.b_intb, VI.Q.b_lent, VI.Q.it0, VI.Q.it1, VI.Q.isI, VI.Q.isB, VI.Q.isT, VI.Q.ap0, VI.Q.ap1, VI.R.bind_ok, VI.R.toS_ok, VI.RS.seq_nx, VI.RS.seq_rt, VI.RS.seq_fail, VI.R.bind_fail, VI.R.toS_fail, VI.forFix, VI.rngL, VI.loopR_nx, VI.loopR_rt, e, em, VI.Q.o_fdiv _ _ _ ef, VI.Q.o_mul _ _ _ m, e2, e1]
      · have e2 : decide ((mid : Int) * (mid : Int) ≤ (n : Int)) = false := dF (by rw [mul_nat]; omega)
        obtain ⟨lo', yy, x', e1, r1, r2⟩ := ih k lo mid (some (.int mid)) h1 (by omega) (by omega) b1 (by omega) (by omega)
        refine ⟨lo', yy, x', ?_, r1, r2⟩
        simp only [VI.Q.ss0, VI.Q.ss1, VI.Q.sasg, VI.Q.spar, VI.Q.saug, VI.Q.sexp, VI.Q.sret, VI.Q.sretn, VI.Q.sbad, VI.Q.ifS_t, VI.Q.ifS_f, VI.Q.ifR_t, VI.Q.ifR_f, VI.Q.sife, VI.Q.sfor1, VI.Q.whl1, VI.Q.lcGo_fix, VI.Q.lc, VI.Q.lcF0, VI.Q.noX_ok, VI.Q.wk_fix, VI.Q.wk_live,  VI.Q.l0, VI.Q.l1, VI.Q.dn0, VI.Q.dn1, VI.Q.con, VI.Q.var, VI.Q.glo, VI.Q.bin, VI.Q.negV_int, VI.Q.neg, VI.Q.nt, VI.Q.ntT, VI.Q.andE, VI.Q.orE, VI.Q.andTt, VI.Q.orTt, VI.Q.andV1, VI.Q.andV2, VI.Q.orV1, VI.Q.orV2, VI.Q.andT0, VI.Q.andT1, VI.Q.orT0, VI.Q.orT1, VI.Q.cmpE, VI.Q.cmpTt, VI.Q.chnTt, VI.Q.chnE, VI.Q.ifeE, VI.Q.tup, VI.Q.lst, VI.Q.call, VI.Q.callT, VI.Q.callk, VI.Q.bi, VI.Q.biT, VI.Q.isi, VI.Q.isiT, VI.Q.ix, VI.Q.bm, VI.Q.getv0, VI.Q.getv1, VI.Q.set0, VI.Q.set1, VI.Q.put_nm, VI.Q.put_tup, VI.Q.tg0, VI.Q.tg1, VI.Q.fin_nx, VI.Q.fin_rt, VI.Q.lift1, VI.Q.of1, VI.Q.o_add, VI.Q.o_sub, VI.Q.o_aadd, VI.Q.o_lt, VI.Q.o_le, VI.Q.o_gt, VI.Q.o_ge, VI.Q.o_eq, VI.Q.o_ne, VI.Q.o_eq2, VI.Q.o_ne2, VI.Q.tr_b, VI.Q.tr_i, VI.Q.b_abs, VI.Q.b_max2, VI.Q.b_max3, VI.Q.b_min2, VI.Q.b_intb, VI.Q.b_lent, VI.Q.it0, VI.Q.it1, VI.Q.isI, VI.Q.isB, VI.Q.isT, VI.Q.ap0, VI.Q.ap1, VI.R.bind_ok, VI.R.toS_ok, VI.RS.seq_nx, VI.RS.seq_rt, VI.RS.seq_fail, VI.R.bind_fail, VI.R.toS_fail, VI.forFix, VI.rngL, VI.loopR_nx, VI.loopR_rt, e, em, VI.Q.o_fdiv _ _ _ ef, VI.Q.o_mul _ _ _ m, e2, e1]
    · have e0 : hi = lo + 1 := by omega
      have e : decide ((1 : Int) < (hi : Int) - (lo : Int)) = false := dF (by omega)
      refine ⟨lo, some (.int hi), x, ?_, h1, by rw [← e0]; exact h2⟩
      simp only [VI.Q.ss0, VI.Q.ss1, VI.Q.sasg, VI.Q.spar, VI.Q.saug, VI.Q.sexp, VI.Q.sret, VI.Q.sretn, VI.Q.sbad, VI.Q.ifS_t, VI.Q.ifS_f, VI.Q.ifR_t, VI.Q.ifR_f, VI.Q.sife, VI.Q.sfor1, VI.Q.whl1, VI.Q.lcGo_fix, VI.Q.lc, VI.Q.lcF0, VI.Q.noX_ok, VI.Q.wk_fix, VI.Q.wk_live,  VI.Q.l0, VI.Q.l1, VI.Q.dn0, VI.Q.dn1, VI.Q.con, VI.Q.var, VI.Q.glo, VI.Q.bin, VI.Q.negV_int, VI.Q.neg, VI.Q.nt, VI.Q.ntT, VI.Q.andE, VI.Q.orE, VI.Q.andTt, VI.Q.orTt, VI.Q.andV1, VI.Q.andV2, VI.Q.orV1, VI.Q.orV2, VI.Q.andT0, VI.Q.andT1, VI.Q.orT0, VI.Q.orT1, VI.Q.cmpE, VI.Q.cmpTt, VI.Q.chnTt, VI.Q.chnE, VI.Q.ifeE, VI.Q.tup, VI.Q.lst, VI.Q.call, VI.Q.callT, VI.Q.callk, VI.Q.bi, VI.Q.biT, VI.Q.isi, VI.Q.isiT, VI.Q.ix, VI.Q.bm, VI.Q.getv0, VI.Q.getv1, VI.Q.set0, VI.Q.set1, VI.Q.put_nm, VI.Q.put_tup, VI.Q.tg0, VI.Q.tg1, VI.Q.fin_nx, VI.Q.fin_rt, VI.Q.lift1, VI.Q.of1, VI.Q.o_add, VI.Q.o_sub, VI.Q.o_aadd, VI.Q.o_lt, VI.Q.o_le, VI.Q.o_gt, VI.Q.o_ge, VI.Q.o_eq, VI.Q.o_ne, VI.Q.o_eq2, VI.Q.o_ne2, VI.Q.tr_b, VI.Q.tr_i, VI.Q.b_abs, VI.Q.b_max2, VI.Q.b_max3, VI.Q.b_min2, VI.Q.b_intb, VI.Q.b_lent, VI.Q.it0, VI.Q.it1, VI.Q.isI, VI.Q.isB, VI.Q.isT, VI.Q.ap0, VI.Q.ap1, VI.R.bind_ok, VI.R.toS_ok, VI.RS.seq_nx, VI.RS.seq_rt, VI.RS.seq_fail, VI.R.bind_fail, VI.R.toS_fail, VI.forFix, VI.rngL, VI.loopR_nx, VI.loopR_rt, e]
theorem c14 (d r : Nat) (h : Hv) (hr : r * r ≤ 10 ^ 100) : rn (d + 1) 14 [.int ((r * r : Nat) : Int)] h = .ok (.int r) h := by
  rw [q14]
  unfold b14
  have hn : r * r < 1 * 1 * 4 ^ 200 := Nat.lt_of_le_of_lt hr (by decide +kernel)
  obtain ⟨hi, e1, r1, r2, r3⟩ := sq1 d (r * r) h (some (.int 0)) none 200 LOOPS 1 hn (by omega) (by decide +kernel) (by decide)
  have hh : hi ≤ 0 + 2 ^ 600 := Nat.le_trans r3 (by decide +kernel)
  obtain ⟨lo, y, x, e2, r4, r5⟩ := sq2 d (r * r) h 600 LOOPS 0 hi none (by omega) r1 hh r2 r3 (by decide)
  have er : lo = r := by
    rcases Nat.lt_trichotomy lo r with z | z | z
    · have := Nat.mul_le_mul (show lo + 1 ≤ r from z) (show lo + 1 ≤ r from z)
      omega
    · exact z
    · have := Nat.mul_lt_mul_of_lt_of_le z (Nat.le_of_lt z) (by omega)
      omega
  subst er
  have e1 : whlL (C1 d) (B1 d) LOOPS [some (.int ((lo * lo : Nat) : Int)), some (.int 0), some (.int 1), none] h = _ := e1
  have e2 : whlL (C2 d) (B2 d) LOOPS [some (.int ((lo * lo : Nat) : Int)), some (.int 0), some (.int hi), none] h = _ := e2
  simp only [VI.Q.ss0, VI.Q.ss1, VI.Q.sasg, VI.Q.spar, VI.Q.saug, VI.Q.sexp, VI.Q.sret, VI.Q.sretn, VI.Q.sbad, VI.Q.ifS_t, VI.Q.ifS_f, VI.Q.ifR_t, VI.Q.ifR_f, VI.Q.sife, VI.Q.sfor1, VI.Q.whl1, VI.Q.lcGo_fix, VI.Q.lc, VI.Q.lcF0, VI.Q.noX_ok, VI.Q.wk_fix, VI.Q.wk_live,  VI.Q.l0, VI.Q.l1, VI.Q.dn0, VI.Q.dn1, VI.Q.con, VI.Q.var, VI.Q.glo, VI.Q.bin, VI.Q.negV_int, VI.Q.neg, VI.Q.nt, VI.Q.ntT, VI.Q.andE, VI.Q.orE, VI.Q.andTt, VI.Q.orTt, VI.Q.andV1, VI.Q.andV2, VI.Q.orV1, VI.Q.orV2, VI.Q.andT0, VI.Q.andT1, VI.Q.orT0, VI.Q.orT1, VI.Q.cmpE, VI.Q.cmpTt, VI.Q.chnTt, VI.Q.chnE, VI.Q.ifeE, VI.Q.tup, VI.Q.lst, VI.Q.call, VI.Q.callT, VI.Q.callk, VI.Q.bi, VI.Q.biT, VI.Q.isi, VI.Q.isiT, VI.Q.ix, VI.Q.bm, VI.Q.getv0, VI.Q.getv1, VI.Q.set0, VI.Q.set1, VI.Q.put_nm, VI.Q.put_tup, VI.Q.tg0, VI.Q.tg1, VI.Q.fin_nx, VI.Q.fin_rt, VI.Q.lift1, VI.Q.of1, VI.Q.o_add, VI.Q.o_sub, VI.Q.o_aadd, VI.Q.o_lt, VI.Q.o_le, VI.Q.o_gt, VI.Q.o_ge, VI.Q.o_eq, VI.Q.o_ne, VI.Q.o_eq2, VI.Q.o_ne2, VI.Q.tr_b, VI.Q.tr_i, VI.Q.b_abs, VI.Q.b_max2, VI.Q.b_max3, VI.Q.b_min2, VI.Q.b_intb, VI.Q.b_lent, VI.Q.it0, VI.Q.it1, VI.Q.isI, VI.Q.isB, VI.Q.isT, VI.Q.ap0, VI.Q.ap1, VI.R.bind_ok, VI.R.toS_ok, VI.RS.seq_nx, VI.RS.seq_rt, VI.RS.seq_fail, VI.R.bind_fail, VI.R.toS_fail, VI.forFix, VI.rngL, VI.loopR_nx, VI.loopR_rt, VI.Q.swhl, e1, e2]

theorem c15 (d : Nat) {f : Int} {s w r n : Nat} (h : Hv) (b1 : Bd n f) (hn : n ≤ 1000) (f0 : 0 ≤ f) (hs : s ≤ 60) (hw : w ≤ 60) (e : ats f s (2 * max w s) = ((r * r : Nat) : Int)) (hr : r * r ≤ 10 ^ 100) (o : (r : Int).natAbs < FIG) :
    rn (d + 4) 15 [nm f s, .int w] h = .ok (nm r (max w s)) h := by
  rw [q15]
  unfold b15
  have e1 : decide (f < 0) = false := dF (by omega)
  have e2 : (2 : Int) * ((max w s : Nat) : Int) = ((2 * max w s : Nat) : Int) := rfl
  have m : VI.mulOk 2 ((max w s : Nat) : Int) = true := natOk (a := 2) (b := max w s) (by decide +kernel) (Nat.le_trans (show max w s ≤ 60 by omega) (by decide +kernel))
  simp only [VI.Q.ss0, VI.Q.ss1, VI.Q.sasg, VI.Q.spar, VI.Q.saug, VI.Q.sexp, VI.Q.sret, VI.Q.sretn, VI.Q.sbad, VI.Q.ifS_t, VI.Q.ifS_f, VI.Q.ifR_t, VI.Q.ifR_f, VI.Q.sife, VI.Q.sfor1, VI.Q.whl1, VI.Q.lcGo_fix, VI.Q.lc, VI.Q.lcF0, VI.Q.noX_ok, VI.Q.wk_fix, VI.Q.wk_live,  VI.Q.l0, VI.Q.l1, VI.Q.dn0, VI.Q.dn1, VI.Q.con, VI.Q.var, VI.Q.glo, VI.Q.bin, VI.Q.negV_int, VI.Q.neg, VI.Q.nt, VI.Q.ntT, VI.Q.andE, VI.Q.orE, VI.Q.andTt, VI.Q.orTt, VI.Q.andV1, VI.Q.andV2, VI.Q.orV1, VI.Q.orV2, VI.Q.andT0, VI.Q.andT1, VI.Q.orT0, VI.Q.orT1, VI.Q.cmpE, VI.Q.cmpTt, VI.Q.chnTt, VI.Q.chnE, VI.Q.ifeE, VI.Q.tup, VI.Q.lst, VI.Q.call, VI.Q.callT, VI.Q.callk, VI.Q.bi, VI.Q.biT, VI.Q.isi, VI.Q.isiT, VI.Q.ix, VI.Q.bm, VI.Q.getv0, VI.Q.getv1, VI.Q.set0, VI.Q.set1, VI.Q.put_nm, VI.Q.put_tup, VI.Q.tg0, VI.Q.tg1, VI.Q.fin_nx, VI.Q.fin_rt, VI.Q.lift1, VI.Q.of1, VI.Q.o_add, VI.Q.o_sub, VI.Q.o_aadd, VI.Q.o_lt, VI.Q.o_le, VI.Q.o_gt, VI.Q.o_ge, VI.Q.o_eq, VI.Q.o_ne, VI.Q.o_eq2, VI.Q.o_ne2, VI.Q.tr_b, VI.Q.tr_i, VI.Q.b_abs, VI.Q.b_max2, VI.Q.b_max3, VI.Q.b_min2, VI.Q.b_intb, VI.Q.b_lent, VI.Q.it0, VI.Q.it1, VI.Q.isI, VI.Q.isB, VI.Q.isT, VI.Q.ap0, VI.Q.ap1, VI.R.bind_ok, VI.R.toS_ok, VI.RS.seq_nx, VI.RS.seq_rt, VI.RS.seq_fail, VI.R.bind_fail, VI.R.toS_fail, VI.forFix, VI.rngL, VI.loopR_nx, VI.loopR_rt, e1, imax_nat, VI.Q.o_mul _ _ _ m, e2, c8 d h b1 hn (show s ≤ 1000 by omega) (show 2 * max w s ≤ 1000 by omega), e, c14 (d + 2) r h hr, c7 (d + 2) h ⟨o, show max w s ≤ 60 by omega⟩]
theorem get_last (h : Hv) (o : VO) : (h.new o).get h.n = some o := by rw [Hv.get_new, if_pos rfl]
theorem c17 (d : Nat) {f g : Int} {s t n m : Nat} (h : Hv) (b1 : Bd n f) (b2 : Bd m g) (hn : n ≤ 298) (hm : m ≤ 298) (hs : s ≤ 60) (ht : t ≤ 60) (o : (ats f s (max s t) + 1 * ats g t (max s t)).natAbs < FIG) :
    rn (d + 5) 17 [nm f s, nm g t] h = .ok (nm (ats f s (max s t) + 1 * ats g t (max s t)) (max s t)) (h.new (.lst [nm f s, nm g t])) := by
  rw [q17]
  unfold b17
  simp only [VI.Q.ss0, VI.Q.ss1, VI.Q.sasg, VI.Q.spar, VI.Q.saug, VI.Q.sexp, VI.Q.sret, VI.Q.sretn, VI.Q.sbad, VI.Q.ifS_t, VI.Q.ifS_f, VI.Q.ifR_t, VI.Q.ifR_f, VI.Q.sife, VI.Q.sfor1, VI.Q.whl1, VI.Q.lcGo_fix, VI.Q.lc, VI.Q.lcF0, VI.Q.noX_ok, VI.Q.wk_fix, VI.Q.wk_live,  VI.Q.l0, VI.Q.l1, VI.Q.dn0, VI.Q.dn1, VI.Q.con, VI.Q.var, VI.Q.glo, VI.Q.bin, VI.Q.negV_int, VI.Q.neg, VI.Q.nt, VI.Q.ntT, VI.Q.andE, VI.Q.orE, VI.Q.andTt, VI.Q.orTt, VI.Q.andV1, VI.Q.andV2, VI.Q.orV1, VI.Q.orV2, VI.Q.andT0, VI.Q.andT1, VI.Q.orT0, VI.Q.orT1, VI.Q.cmpE, VI.Q.cmpTt, VI.Q.chnTt, VI.Q.chnE, VI.Q.ifeE, VI.Q.tup, VI.Q.lst, VI.Q.call, VI.Q.callT, VI.Q.callk, VI.Q.bi, VI.Q.biT, VI.Q.isi, VI.Q.isiT, VI.Q.ix, VI.Q.bm, VI.Q.getv0, VI.Q.getv1, VI.Q.set0, VI.Q.set1, VI.Q.put_nm, VI.Q.put_tup, VI.Q.tg0, VI.Q.tg1, VI.Q.fin_nx, VI.Q.fin_rt, VI.Q.lift1, VI.Q.of1, VI.Q.o_add, VI.Q.o_sub, VI.Q.o_aadd, VI.Q.o_lt, VI.Q.o_le, VI.Q.o_gt, VI.Q.o_ge, VI.Q.o_eq, VI.Q.o_ne, VI.Q.o_eq2, VI.Q.o_ne2, VI.Q.tr_b, VI.Q.tr_i, VI.Q.b_abs, VI.Q.b_max2, VI.Q.b_max3, VI.Q.b_min2, VI.Q.b_intb, VI.Q.b_lent, VI.Q.it0, VI.Q.it1, VI.Q.isI, VI.Q.isB, VI.Q.isT, VI.Q.ap0, VI.Q.ap1, VI.R.bind_ok, VI.R.toS_ok, VI.RS.seq_nx, VI.RS.seq_rt, VI.RS.seq_fail, VI.R.bind_fail, VI.R.toS_fail, VI.forFix, VI.rngL, VI.loopR_nx, VI.loopR_rt, c2b (d + 1) (h.new (.lst [nm f s, nm g t])) (get_last _ _) (b1.ok hn hs) (b2.ok hm ht), c10 d (h.new (.lst [nm f s, nm g t])) b1 b2 (by omega) (by omega) hs ht (show Bd 0 1 by unfold Bd; decide) o]
theorem c18 (d : Nat) {f g : Int} {s t n m : Nat} (h : Hv) (b1 : Bd n f) (b2 : Bd m g) (hn : n ≤ 298) (hm : m ≤ 298) (hs : s ≤ 60) (ht : t ≤ 60) (o : (ats f s (max s t) + -1 * ats g t (max s t)).natAbs < FIG) :
    rn (d + 5) 18 [nm f s, nm g t] h = .ok (nm (ats f s (max s t) + -1 * ats g t (max s t)) (max s t)) (h.new (.lst [nm f s, nm g t])) := by
  rw [q18]
  unfold b18
  simp only [VI.Q.ss0, VI.Q.ss1, VI.Q.sasg, VI.Q.spar, VI.Q.saug, VI.Q.sexp, VI.Q.sret, VI.Q.sretn, VI.Q.sbad, VI.Q.ifS_t, VI.Q.ifS_f, VI.Q.ifR_t, VI.Q.ifR_f, VI.Q.sife, VI.Q.sfor1, VI.Q.whl1, VI.Q.lcGo_fix, VI.Q.lc, VI.Q.lcF0, VI.Q.noX_ok, VI.Q.wk_fix, VI.Q.wk_live,  VI.Q.l0, VI.Q.l1, VI.Q.dn0, VI.Q.dn1, VI.Q.con, VI.Q.var, VI.Q.glo, VI.Q.bin, VI.Q.negV_int, VI.Q.neg, VI.Q.nt, VI.Q.ntT, VI.Q.andE, VI.Q.orE, VI.Q.andTt, VI.Q.orTt, VI.Q.andV1, VI.Q.andV2, VI.Q.orV1, VI.Q.orV2, VI.Q.andT0, VI.Q.andT1, VI.Q.orT0, VI.Q.orT1, VI.Q.cmpE, VI.Q.cmpTt, VI.Q.chnTt, VI.Q.chnE, VI.Q.ifeE, VI.Q.tup, VI.Q.lst, VI.Q.call, VI.Q.callT, VI.Q.callk, VI.Q.bi, VI.Q.biT, VI.Q.isi, VI.Q.isiT, VI.Q.ix, VI.Q.bm, VI.Q.getv0, VI.Q.getv1, VI.Q.set0, VI.Q.set1, VI.Q.put_nm, VI.Q.put_tup, VI.Q.tg0, VI.Q.tg1, VI.Q.fin_nx, VI.Q.fin_rt, VI.Q.lift1, VI.Q.of1, VI.Q.o_add, VI.Q.o_sub, VI.Q.o_aadd, VI.Q.o_lt, VI.Q.o_le, VI.Q.o_gt, VI.Q.o_ge, VI.Q.o_eq, VI.Q.o_ne, VI.Q.o_eq2, VI.Q.o_ne2, VI.Q.tr_b, VI.Q.tr_i, VI.Q.b_abs, VI.Q.b_max2, VI.Q.b_max3, VI.Q.b_min2, VI.Q.b_intb, VI.Q.b_lent, VI.Q.it0, VI.Q.it1, VI.Q.isI, VI.Q.isB, VI.Q.isT, VI.Q.ap0, VI.Q.ap1, VI.R.bind_ok, VI.R.toS_ok, VI.RS.seq_nx, VI.RS.seq_rt, VI.RS.seq_fail, VI.R.bind_fail, VI.R.toS_fail, VI.forFix, VI.rngL, VI.loopR_nx, VI.loopR_rt, c2b (d + 1) (h.new (.lst [nm f s, nm g t])) (get_last _ _) (b1.ok hn hs) (b2.ok hm ht), c10 d (h.new (.lst [nm f s, nm g t])) (k := -1) b1 b2 (by omega) (by omega) hs ht (show Bd 0 (-1) by unfold Bd; decide) o]
theorem c19 (d : Nat) {f g : Int} {s t w n m : Nat} (h : Hv) (b1 : Bd n f) (b2 : Bd m g) (hn : n ≤ 298) (hm : m ≤ 298) (hs : s ≤ 30) (ht : t ≤ 30) (hw : w ≤ 20) (o : (ats (f * g) (s + t) (min (s + t) (max (max w s) t))).natAbs < FIG) :
    rn (d + 5) 19 [nm f s, nm g t, .int w] h = .ok (nm (ats (f * g) (s + t) (min (s + t) (max (max w s) t))) (min (s + t) (max (max w s) t))) (h.new (.lst [nm f s, nm g t])) := by
  rw [q19]
  unfold b19
  simp only [VI.Q.ss0, VI.Q.ss1, VI.Q.sasg, VI.Q.spar, VI.Q.saug, VI.Q.sexp, VI.Q.sret, VI.Q.sretn, VI.Q.sbad, VI.Q.ifS_t, VI.Q.ifS_f, VI.Q.ifR_t, VI.Q.ifR_f, VI.Q.sife, VI.Q.sfor1, VI.Q.whl1, VI.Q.lcGo_fix, VI.Q.lc, VI.Q.lcF0, VI.Q.noX_ok, VI.Q.wk_fix, VI.Q.wk_live,  VI.Q.l0, VI.Q.l1, VI.Q.dn0, VI.Q.dn1, VI.Q.con, VI.Q.var, VI.Q.glo, VI.Q.bin, VI.Q.negV_int, VI.Q.neg, VI.Q.nt, VI.Q.ntT, VI.Q.andE, VI.Q.orE, VI.Q.andTt, VI.Q.orTt, VI.Q.andV1, VI.Q.andV2, VI.Q.orV1, VI.Q.orV2, VI.Q.andT0, VI.Q.andT1, VI.Q.orT0, VI.Q.orT1, VI.Q.cmpE, VI.Q.cmpTt, VI.Q.chnTt, VI.Q.chnE, VI.Q.ifeE, VI.Q.tup, VI.Q.lst, VI.Q.call, VI.Q.callT, VI.Q.callk, VI.Q.bi, VI.Q.biT, VI.Q.isi, VI.Q.isiT, VI.Q.ix, VI.Q.bm, VI.Q.getv0, VI.Q.getv1, VI.Q.set0, VI.Q.set1, VI.Q.put_nm, VI.Q.put_tup, VI.Q.tg0, VI.Q.tg1, VI.Q.fin_nx, VI.Q.fin_rt, VI.Q.lift1, VI.Q.of1, VI.Q.o_add, VI.Q.o_sub, VI.Q.o_aadd, VI.Q.o_lt, VI.Q.o_le, VI.Q.o_gt, VI.Q.o_ge, VI.Q.o_eq, VI.Q.o_ne, VI.Q.o_eq2, VI.Q.o_ne2, VI.Q.tr_b, VI.Q.tr_i, VI.Q.b_abs, VI.Q.b_max2, VI.Q.b_max3, VI.Q.b_min2, VI.Q.b_intb, VI.Q.b_lent, VI.Q.it0, VI.Q.it1, VI.Q.isI, VI.Q.isB, VI.Q.isT, VI.Q.ap0, VI.Q.ap1, VI.R.bind_ok, VI.R.toS_ok, VI.RS.seq_nx, VI.RS.seq_rt, VI.RS.seq_fail, VI.R.bind_fail, VI.R.toS_fail, VI.forFix, VI.rngL, VI.loopR_nx, VI.loopR_rt, c2b (d + 1) (h.new (.lst [nm f s, nm g t])) (get_last _ _) (b1.ok hn (by omega)) (b2.ok hm (by omega)), c3 (d + 2) (s := w) (h.new (.lst [nm f s, nm g t])) hw, c11 d (h.new (.lst [nm f s, nm g t])) b1 b2 (by omega) (by omega) hs ht (show w ≤ 60 by omega) o]
theorem c20 (d : Nat) {f g : Int} {s t w n m : Nat} (h : Hv) (b1 : Bd n f) (b2 : Bd m g) (hn : n ≤ 298) (hm : m ≤ 298) (hs : s ≤ 30) (ht : t ≤ 30) (hw : w ≤ 20) (nz : g ≠ 0) (o : (sgn (f * 10 ^ (w + t)) (g * 10 ^ s)).natAbs < FIG) :
    rn (d + 5) 20 [nm f s, nm g t, .int w] h = .ok (nm (sgn (f * 10 ^ (w + t)) (g * 10 ^ s)) w) (h.new (.lst [nm f s, nm g t])) := by
  rw [q20]
  unfold b20
  simp only [VI.Q.ss0, VI.Q.ss1, VI.Q.sasg, VI.Q.spar, VI.Q.saug, VI.Q.sexp, VI.Q.sret, VI.Q.sretn, VI.Q.sbad, VI.Q.ifS_t, VI.Q.ifS_f, VI.Q.ifR_t, VI.Q.ifR_f, VI.Q.sife, VI.Q.sfor1, VI.Q.whl1, VI.Q.lcGo_fix, VI.Q.lc, VI.Q.lcF0, VI.Q.noX_ok, VI.Q.wk_fix, VI.Q.wk_live,  VI.Q.l0, VI.Q.l1, VI.Q.dn0, VI.Q.dn1, VI.Q.con, VI.Q.var, VI.Q.glo, VI.Q.bin, VI.Q.negV_int, VI.Q.neg, VI.Q.nt, VI.Q.ntT, VI.Q.andE, VI.Q.orE, VI.Q.andTt, VI.Q.orTt, VI.Q.andV1, VI.Q.andV2, VI.Q.orV1, VI.Q.orV2, VI.Q.andT0, VI.Q.andT1, VI.Q.orT0, VI.Q.orT1, VI.Q.cmpE, VI.Q.cmpTt, VI.Q.chnTt, VI.Q.chnE, VI.Q.ifeE, VI.Q.tup, VI.Q.lst, VI.Q.call, VI.Q.callT, VI.Q.callk, VI.Q.bi, VI.Q.biT, VI.Q.isi, VI.Q.isiT, VI.Q.ix, VI.Q.bm, VI.Q.getv0, VI.Q.getv1, VI.Q.set0, VI.Q.set1, VI.Q.put_nm, VI.Q.put_tup, VI.Q.tg0, VI.Q.tg1, VI.Q.fin_nx, VI.Q.fin_rt, VI.Q.lift1, VI.Q.of1, VI.Q.o_add, VI.Q.o_sub, VI.Q.o_aadd, VI.Q.o_lt, VI.Q.o_le, VI.Q.o_gt, VI.Q.o_ge, VI.Q.o_eq, VI.Q.o_ne, VI.Q.o_eq2, VI.Q.o_ne2, VI.Q.tr_b, VI.Q.tr_i, VI.Q.b_abs, VI.Q.b_max2, VI.Q.b_max3, VI.Q.b_min2, VI.Q.b_intb, VI.Q.b_lent, VI.Q.it0, VI.Q.it1, VI.Q.isI, VI.Q.isB, VI.Q.isT, VI.Q.ap0, VI.Q.ap1, VI.R.bind_ok, VI.R.toS_ok, VI.RS.seq_nx, VI.RS.seq_rt, VI.RS.seq_fail, VI.R.bind_fail, VI.R.toS_fail, VI.forFix, VI.rngL, VI.loopR_nx, VI.loopR_rt, c2b (d + 1) (h.new (.lst [nm f s, nm g t])) (get_last _ _) (b1.ok hn (by omega)) (b2.ok hm (by omega)), c3 (d + 2) (s := w) (h.new (.lst [nm f s, nm g t])) hw, c12 d (h.new (.lst [nm f s, nm g t])) b1 b2 (by omega) (by omega) (show s ≤ 60 by omega) (show t ≤ 60 by omega) (show w ≤ 60 by omega) nz o]
theorem c21 (d : Nat) {f : Int} {s w e n : Nat} (h : Hv) (b1 : Bd n f) (hn : n ≤ 18) (hs : s ≤ 30) (hw : w ≤ 20) (he : e ≤ 10) (o : (ats (f ^ e) (e * s) (min (e * s) (max w s))).natAbs < FIG) (be : Bd 1000 (f ^ e)) :
    rn (d + 5) 21 [nm f s, nm e 0, .int w] h = .ok (nm (ats (f ^ e) (e * s) (min (e * s) (max w s))) (min (e * s) (max w s))) (h.new (.lst [nm f s, nm e 0])) := by
  rw [q21]
  unfold b21
  have b2 : Bd 1 (e : Int) := by unfold Bd; omega
  simp only [VI.Q.ss0, VI.Q.ss1, VI.Q.sasg, VI.Q.spar, VI.Q.saug, VI.Q.sexp, VI.Q.sret, VI.Q.sretn, VI.Q.sbad, VI.Q.ifS_t, VI.Q.ifS_f, VI.Q.ifR_t, VI.Q.ifR_f, VI.Q.sife, VI.Q.sfor1, VI.Q.whl1, VI.Q.lcGo_fix, VI.Q.lc, VI.Q.lcF0, VI.Q.noX_ok, VI.Q.wk_fix, VI.Q.wk_live,  VI.Q.l0, VI.Q.l1, VI.Q.dn0, VI.Q.dn1, VI.Q.con, VI.Q.var, VI.Q.glo, VI.Q.bin, VI.Q.negV_int, VI.Q.neg, VI.Q.nt, VI.Q.ntT, VI.Q.andE, VI.Q.orE, VI.Q.andTt, VI.Q.orTt, VI.Q.andV1, VI.Q.andV2, VI.Q.orV1, VI.Q.orV2, VI.Q.andT0, VI.Q.andT1, VI.Q.orT0, VI.Q.orT1, VI.Q.cmpE, VI.Q.cmpTt, VI.Q.chnTt, VI.Q.chnE, VI.Q.ifeE, VI.Q.tup, VI.Q.lst, VI.Q.call, VI.Q.callT, VI.Q.callk, VI.Q.bi, VI.Q.biT, VI.Q.isi, VI.Q.isiT, VI.Q.ix, VI.Q.bm, VI.Q.getv0, VI.Q.getv1, VI.Q.set0, VI.Q.set1, VI.Q.put_nm, VI.Q.put_tup, VI.Q.tg0, VI.Q.tg1, VI.Q.fin_nx, VI.Q.fin_rt, VI.Q.lift1, VI.Q.of1, VI.Q.o_add, VI.Q.o_sub, VI.Q.o_aadd, VI.Q.o_lt, VI.Q.o_le, VI.Q.o_gt, VI.Q.o_ge, VI.Q.o_eq, VI.Q.o_ne, VI.Q.o_eq2, VI.Q.o_ne2, VI.Q.tr_b, VI.Q.tr_i, VI.Q.b_abs, VI.Q.b_max2, VI.Q.b_max3, VI.Q.b_min2, VI.Q.b_intb, VI.Q.b_lent, VI.Q.it0, VI.Q.it1, VI.Q.isI, VI.Q.isB, VI.Q.isT, VI.Q.ap0, VI.Q.ap1, VI.R.bind_ok, VI.R.toS_ok, VI.RS.seq_nx, VI.RS.seq_rt, VI.RS.seq_fail, VI.R.bind_fail, VI.R.toS_fail, VI.forFix, VI.rngL, VI.loopR_nx, VI.loopR_rt, c2b (d + 1) (h.new (.lst [nm f s, nm e 0])) (get_last _ _) (b1.ok (by omega) (by omega)) (b2.ok (by omega) (by omega)), c3 (d + 2) (s := w) (h.new (.lst [nm f s, nm e 0])) hw, c13 d (h.new (.lst [nm f s, nm e 0])) b1 hn hs (show w ≤ 60 by omega) he o be]
theorem c22 (d : Nat) {f : Int} {s w r n : Nat} (h : Hv) (b1 : Bd n f) (hn : n ≤ 298) (f0 : 0 ≤ f) (hs : s ≤ 60) (hw : w ≤ 20) (e : ats f s (2 * max w s) = ((r * r : Nat) : Int)) (hr : r * r ≤ 10 ^ 100) (o : (r : Int).natAbs < FIG) :
    rn (d + 5) 22 [nm f s, .int w] h = .ok (nm r (max w s)) (h.new (.lst [nm f s])) := by
  rw [q22]
  unfold b22
  simp only [VI.Q.ss0, VI.Q.ss1, VI.Q.sasg, VI.Q.spar, VI.Q.saug, VI.Q.sexp, VI.Q.sret, VI.Q.sretn, VI.Q.sbad, VI.Q.ifS_t, VI.Q.ifS_f, VI.Q.ifR_t, VI.Q.ifR_f, VI.Q.sife, VI.Q.sfor1, VI.Q.whl1, VI.Q.lcGo_fix, VI.Q.lc, VI.Q.lcF0, VI.Q.noX_ok, VI.Q.wk_fix, VI.Q.wk_live,  VI.Q.l0, VI.Q.l1, VI.Q.dn0, VI.Q.dn1, VI.Q.con, VI.Q.var, VI.Q.glo, VI.Q.bin, VI.Q.negV_int, VI.Q.neg, VI.Q.nt, VI.Q.ntT, VI.Q.andE, VI.Q.orE, VI.Q.andTt, VI.Q.orTt, VI.Q.andV1, VI.Q.andV2, VI.Q.orV1, VI.Q.orV2, VI.Q.andT0, VI.Q.andT1, VI.Q.orT0, VI.Q.orT1, VI.Q.cmpE, VI.Q.cmpTt, VI.Q.chnTt, VI.Q.chnE, VI.Q.ifeE, VI.Q.tup, VI.Q.lst, VI.Q.call, VI.Q.callT, VI.Q.callk, VI.Q.bi, VI.Q.biT, VI.Q.isi, VI.Q.isiT, VI.Q.ix, VI.Q.bm, VI.Q.getv0, VI.Q.getv1, VI.Q.set0, VI.Q.set1, VI.Q.put_nm, VI.Q.put_tup, VI.Q.tg0, VI.Q.tg1, VI.Q.fin_nx, VI.Q.fin_rt, VI.Q.lift1, VI.Q.of1, VI.Q.o_add, VI.Q.o_sub, VI.Q.o_aadd, VI.Q.o_lt, VI.Q.o_le, VI.Q.o_gt, VI.Q.o_ge, VI.Q.o_eq, VI.Q.o_ne, VI.Q.o_eq2, VI.Q.o_ne2, VI.Q.tr_b, VI.Q.tr_i, VI.Q.b_abs, VI.Q.b_max2, VI.Q.b_max3, VI.Q.b_min2, VI.Q.b_intb, VI.Q.b_lent, VI.Q.it0, VI.Q.it1, VI.Q.isI, VI.Q.isB, VI.Q.isT, VI.Q.ap0, VI.Q.ap1, VI.R.bind_ok, VI.R.toS_ok, VI.RS.seq_nx, VI.RS.seq_rt, VI.RS.seq_fail, VI.R.bind_fail, VI.R.toS_fail, VI.forFix, VI.rngL, VI.loopR_nx, VI.loopR_rt, c2a (d + 1) (h.new (.lst [nm f s])) (get_last _ _) (b1.ok (by omega) hs), c3 (d + 2) (s := w) (h.new (.lst [nm f s])) hw, c15 d (h.new (.lst [nm f s])) b1 (show n ≤ 1000 by omega) f0 hs (show w ≤ 60 by omega) e hr o]
theorem c23 (d : Nat) {f g : Int} {s t n m : Nat} (h : Hv) (b1 : Bd n f) (b2 : Bd m g) (hn : n ≤ 298) (hm : m ≤ 298) (hs : s ≤ 60) (ht : t ≤ 60) :
    rn (d + 4) 23 [nm f s, nm g t] h = .ok (.int (cmpI (f * 10 ^ t) (g * 10 ^ s))) (h.new (.lst [nm f s, nm g t])) := by
  rw [q23]
  unfold b23
  simp only [VI.Q.ss0, VI.Q.ss1, VI.Q.sasg, VI.Q.spar, VI.Q.saug, VI.Q.sexp, VI.Q.sret, VI.Q.sretn, VI.Q.sbad, VI.Q.ifS_t, VI.Q.ifS_f, VI.Q.ifR_t, VI.Q.ifR_f, VI.Q.sife, VI.Q.sfor1, VI.Q.whl1, VI.Q.lcGo_fix, VI.Q.lc, VI.Q.lcF0, VI.Q.noX_ok, VI.Q.wk_fix, VI.Q.wk_live,  VI.Q.l0, VI.Q.l1, VI.Q.dn0, VI.Q.dn1, VI.Q.con, VI.Q.var, VI.Q.glo, VI.Q.bin, VI.Q.negV_int, VI.Q.neg, VI.Q.nt, VI.Q.ntT, VI.Q.andE, VI.Q.orE, VI.Q.andTt, VI.Q.orTt, VI.Q.andV1, VI.Q.andV2, VI.Q.orV1, VI.Q.orV2, VI.Q.andT0, VI.Q.andT1, VI.Q.orT0, VI.Q.orT1, VI.Q.cmpE, VI.Q.cmpTt, VI.Q.chnTt, VI.Q.chnE, VI.Q.ifeE, VI.Q.tup, VI.Q.lst, VI.Q.call, VI.Q.callT, VI.Q.callk, VI.Q.bi, VI.Q.biT, VI.Q.isi, VI.Q.isiT, VI.Q.ix, VI.Q.bm, VI.Q.getv0, VI.Q.getv1, VI.Q.set0, VI.Q.set1, VI.Q.put_nm, VI.Q.put_tup, VI.Q.tg0, VI.Q.tg1, VI.Q.fin_nx, VI.Q.fin_rt, VI.Q.lift1, VI.Q.of1, VI.Q.o_add, VI.Q.o_sub, VI.Q.o_aadd, VI.Q.o_lt, VI.Q.o_le, VI.Q.o_gt, VI.Q.o_ge, VI.Q.o_eq, VI.Q.o_ne, VI.Q.o_eq2, VI.Q.o_ne2, VI.Q.tr_b, VI.Q.tr_i, VI.Q.b_abs, VI.Q.b_max2, VI.Q.b_max3, VI.Q.b_min2, VI.Q.b_intb, VI.Q.b_lent, VI.Q.it0, VI.Q.it1, VI.Q.isI, VI.Q.isB, VI.Q.isT, VI.Q.ap0, VI.Q.ap1, VI.R.bind_ok, VI.R.toS_ok, VI.RS.seq_nx, VI.RS.seq_rt, VI.RS.seq_fail, VI.R.bind_fail, VI.R.toS_fail, VI.forFix, VI.rngL, VI.loopR_nx, VI.loopR_rt, c2b d (h.new (.lst [nm f s, nm g t])) (get_last _ _) (b1.ok hn hs) (b2.ok hm ht), c16 d (h.new (.lst [nm f s, nm g t])) b1 b2 (by omega) (by omega) hs ht]
/-! ### draws -/
section
variable {ns : List Int}
theorem dts (h : Hv) (k : Nat) : ∀ ns : List Int, optAll (dt h (k + 1)) (ns.map VV.int) = some (ns.map Dt.int)
  | [] => rfl
  | n :: ns => by
    have e := dts h k ns
    rw [List.map_cons, List.map_cons]
    unfold optAll
    rw [e]
    rfl
theorem eq_nil (h : Hv) (e : h.get 0 = some (.frz (ns.map VV.int))) {m : Nat} (e2 : h.get m = some (.lst [])) : cmpop .eq (.ref 0) (.ref m) h = some ns.isEmpty := by
  show veq h (.ref 0) (.ref m) = _
  unfold veq
  have d1 : dt h DEEP (.ref 0) = some (.lst (ns.map Dt.int)) := by
    show (match h.get 0 with
      | some (.lst xs) => match optAll (dt h 59) xs with
        | some ds => some (Dt.lst ds)
        | none => none
      | some (.frz xs) => match optAll (dt h 59) xs with
        | some ds => some (Dt.lst ds)
        | none => none
      | _ => none) = _
    rw [e]
    show (match optAll (dt h 59) (ns.map VV.int) with
        | some ds => some (Dt.lst ds)
        | none => none) = _
    rw [dts h 58 ns]
  have d2 : dt h DEEP (.ref m) = some (.lst []) := by
    show (match h.get m with
      | some (.lst xs) => match optAll (dt h 59) xs with
        | some ds => some (Dt.lst ds)
        | none => none
      | some (.frz xs) => match optAll (dt h 59) xs with
        | some ds => some (Dt.lst ds)
        | none => none
      | _ => none) = _
    rw [e2]
    rfl
  rw [d1, d2]
  cases ns <;> rfl
theorem len_of (h : Hv) {n : Nat} {xs : List VV} (e : h.get n = some (.frz xs)) : callBi .len [.ref n] h = some (.int xs.length, h) := by
  show (match seqOf h (.ref n) with
    | some xs => some (VV.int xs.length, h)
    | none => none) = _
  have e2 : seqOf h (.ref n) = some xs := by
    show (match h.get n with
      | some (.lst xs) => some xs
      | some (.frz xs) => some xs
      | _ => none) = _
    rw [e]
  rw [e2]
theorem len_ofL (h : Hv) {n : Nat} {xs : List VV} (e : h.get n = some (.lst xs)) : callBi .len [.ref n] h = some (.int xs.length, h) := by
  show (match seqOf h (.ref n) with
    | some xs => some (VV.int xs.length, h)
    | none => none) = _
  have e2 : seqOf h (.ref n) = some xs := by
    show (match h.get n with
      | some (.lst xs) => some xs
      | some (.frz xs) => some xs
      | _ => none) = _
    rw [e]
  rw [e2]
theorem item_of (h : Hv) {n k : Nat} (e : h.get n = some (.frz (ns.map VV.int))) (hk : k < ns.length) : item (.ref n) (.int (k : Int)) h = some (.int ns[k], h) := by
  show (match seqOf h (.ref n) with
    | some xs => liftO h (itemI xs (k : Int))
    | none => none) = _
  have e2 : seqOf h (.ref n) = some (ns.map VV.int) := by
    show (match h.get n with
      | some (.lst xs) => some xs
      | some (.frz xs) => some xs
      | _ => none) = _
    rw [e]
  rw [e2]
  show liftO h ((ns.map VV.int)[k]?) = _
  rw [List.getElem?_map, List.getElem?_eq_getElem hk]
  rfl
theorem spare_loop (d : Nat) (h : Hv) (w y : Option VV) : ∀ (k : Nat) (lo m : Int) (x : Option VV), ∃ (m' : Int) (x' : Option VV), forFix (.nm 3) (denSs (Gof T) (rn d) [.asg (.nm 2) (.bin .fdiv (.var 2) (.con (.int 1000003)))]) (rngL lo k) [w, y, some (.int m), x] h = .nx [w, y, some (.int m'), x'] h := by
  intro k
  induction k with
  | zero => intro lo m x; exact ⟨m, x, rfl⟩
  | succ k ih =>
    intro lo m x
    obtain ⟨m', x', e⟩ := ih (lo + 1) (m / 1000003) (some (.int lo))
    have ef : fdivOk 1000003 = true := by decide +kernel
    refine ⟨m', x', ?_⟩
    simp only [VI.Q.ss0, VI.Q.ss1, VI.Q.sasg, VI.Q.spar, VI.Q.saug, VI.Q.sexp, VI.Q.sret, VI.Q.sretn, VI.Q.sbad, VI.Q.ifS_t, VI.Q.ifS_f, VI.Q.ifR_t, VI.Q.ifR_f, VI.Q.sife, VI.Q.sfor1, VI.Q.whl1, VI.Q.lcGo_fix, VI.Q.lc, VI.Q.lcF0, VI.Q.noX_ok, VI.Q.wk_fix, VI.Q.wk_live,  VI.Q.l0, VI.Q.l1, VI.Q.dn0, VI.Q.dn1, VI.Q.con, VI.Q.var, VI.Q.glo, VI.Q.bin, VI.Q.negV_int, VI.Q.neg, VI.Q.nt, VI.Q.ntT, VI.Q.andE, VI.Q.orE, VI.Q.andTt, VI.Q.orTt, VI.Q.andV1, VI.Q.andV2, VI.Q.orV1, VI.Q.orV2, VI.Q.andT0, VI.Q.andT1, VI.Q.orT0, VI.Q.orT1, VI.Q.cmpE, VI.Q.cmpTt, VI.Q.chnTt, VI.Q.chnE, VI.Q.ifeE, VI.Q.tup, VI.Q.lst, VI.Q.call, VI.Q.callT, VI.Q.callk, VI.Q.bi, VI.Q.biT, VI.Q.isi, VI.Q.isiT, VI.Q.ix, VI.Q.bm, VI.Q.getv0, VI.Q.getv1, VI.Q.set0, VI.Q.set1, VI.Q.put_nm, VI.Q.put_tup, VI.Q.tg0, VI.Q.tg1, VI.Q.fin_nx, VI.Q.fin_rt, VI.Q.lift1, VI.Q.of1, VI.Q.o_add, VI.Q.o_sub, VI.Q.o_aadd, VI.Q.o_lt, VI.Q.o_le, VI.Q.o_gt, VI.Q.o_ge, VI.Q.o_eq, VI.Q.o_ne, VI.Q.o_eq2, VI.Q.o_ne2, VI.Q.tr_b, VI.Q.tr_i, VI.Q.b_abs, VI.Q.b_max2, VI.Q.b_max3, VI.Q.b_min2, VI.Q.b_intb, VI.Q.b_lent, VI.Q.it0, VI.Q.it1, VI.Q.isI, VI.Q.isB, VI.Q.isT, VI.Q.ap0, VI.Q.ap1, VI.R.bind_ok, VI.R.toS_ok, VI.RS.seq_nx, VI.RS.seq_rt, VI.RS.seq_fail, VI.R.bind_fail, VI.R.toS_fail, VI.forFix, VI.rngL, VI.loopR_nx, VI.loopR_rt, VI.Q.o_fdiv _ _ _ ef, e]
def Ext (h h' : Hv) : Prop := h.n ≤ h'.n ∧ ∀ i, i < h.n → h'.get i = h.get i
theorem c24 (d k : Nat) (h : Hv) (e : h.get 0 = some (.frz (ns.map VV.int))) (hl : ns.length ≤ 63) : ∃ (v : Int) (h' : Hv), rn (d + 1) 24 [.ref 0, .int k] h = .ok (.int v) h' ∧ Ext h h' := by
  rw [q24]
  unfold b24
  have el := len_of h e
  rw [List.length_map] at el
  by_cases z : k < ns.length
  · have e1 : decide ((k : Int) < (ns.length : Int)) = true := dT (by omega)
    refine ⟨ns[k], h, ?_, Nat.le_refl _, fun _ _ => rfl⟩
    simp only [VI.Q.ss0, VI.Q.ss1, VI.Q.sasg, VI.Q.spar, VI.Q.saug, VI.Q.sexp, VI.Q.sret, VI.Q.sretn, VI.Q.sbad, VI.Q.ifS_t, VI.Q.ifS_f, VI.Q.ifR_t, VI.Q.ifR_f, VI.Q.sife, VI.Q.sfor1, VI.Q.whl1, VI.Q.lcGo_fix, VI.Q.lc, VI.Q.lcF0, VI.Q.noX_ok, VI.Q.wk_fix, VI.Q.wk_live,  VI.Q.l0, VI.Q.l1, VI.Q.dn0, VI.Q.dn1, VI.Q.con, VI.Q.var, VI.Q.glo, VI.Q.bin, VI.Q.negV_int, VI.Q.neg, VI.Q.nt, VI.Q.ntT, VI.Q.andE, VI.Q.orE, VI.Q.andTt, VI.Q.orTt, VI.Q.andV1, VI.Q.andV2, VI.Q.orV1, VI.Q.orV2, VI.Q.andT0, VI.Q.andT1, VI.Q.orT0, VI.Q.orT1, VI.Q.cmpE, VI.Q.cmpTt, VI.Q.chnTt, VI.Q.chnE, VI.Q.ifeE, VI.Q.tup, VI.Q.lst, VI.Q.call, VI.Q.callT, VI.Q.callk, VI.Q.bi, VI.Q.biT, VI.Q.isi, VI.Q.isiT, VI.Q.ix, VI.Q.bm, VI.Q.getv0, VI.Q.getv1, VI.Q.set0, VI.Q.set1, VI.Q.put_nm, VI.Q.put_tup, VI.Q.tg0, VI.Q.tg1, VI.Q.fin_nx, VI.Q.fin_rt, VI.Q.lift1, VI.Q.of1, VI.Q.o_add, VI.Q.o_sub, VI.Q.o_aadd, VI.Q.o_lt, VI.Q.o_le, VI.Q.o_gt, VI.Q.o_ge, VI.Q.o_eq, VI.Q.o_ne, VI.Q.o_eq2, VI.Q.o_ne2, VI.Q.tr_b, VI.Q.tr_i, VI.Q.b_abs, VI.Q.b_max2, VI.Q.b_max3, VI.Q.b_min2, VI.Q.b_intb, VI.Q.b_lent, VI.Q.it0, VI.Q.it1, VI.Q.isI, VI.Q.isB, VI.Q.isT, VI.Q.ap0, VI.Q.ap1, VI.R.bind_ok, VI.R.toS_ok, VI.RS.seq_nx, VI.RS.seq_rt, VI.RS.seq_fail, VI.R.bind_fail, VI.R.toS_fail, VI.forFix, VI.rngL, VI.loopR_nx, VI.loopR_rt, el, e1, item_of h e z]
  · have e1 : decide ((k : Int) < (ns.length : Int)) = false := dF (by omega)
    have h0 := Hv.get_lt e
    have e' : (h.new (.lst [])).get 0 = some (.frz (ns.map VV.int)) := by rw [Hv.get_new, if_neg (by omega)]; exact e
    have en := eq_nil (h.new (.lst [])) e' (get_last h (.lst []))
    have x1 : Ext h (h.new (.lst [])) := ⟨Nat.le_succ _, fun i hi => by rw [Hv.get_new, if_neg (by omega)]⟩
    have el' := len_of (h.new (.lst [])) e'
    rw [List.length_map] at el'
    cases z2 : ns.isEmpty with
    | true =>
      refine ⟨0, _, ?_, x1⟩
      simp only [VI.Q.ss0, VI.Q.ss1, VI.Q.sasg, VI.Q.spar, VI.Q.saug, VI.Q.sexp, VI.Q.sret, VI.Q.sretn, VI.Q.sbad, VI.Q.ifS_t, VI.Q.ifS_f, VI.Q.ifR_t, VI.Q.ifR_f, VI.Q.sife, VI.Q.sfor1, VI.Q.whl1, VI.Q.lcGo_fix, VI.Q.lc, VI.Q.lcF0, VI.Q.noX_ok, VI.Q.wk_fix, VI.Q.wk_live,  VI.Q.l0, VI.Q.l1, VI.Q.dn0, VI.Q.dn1, VI.Q.con, VI.Q.var, VI.Q.glo, VI.Q.bin, VI.Q.negV_int, VI.Q.neg, VI.Q.nt, VI.Q.ntT, VI.Q.andE, VI.Q.orE, VI.Q.andTt, VI.Q.orTt, VI.Q.andV1, VI.Q.andV2, VI.Q.orV1, VI.Q.orV2, VI.Q.andT0, VI.Q.andT1, VI.Q.orT0, VI.Q.orT1, VI.Q.cmpE, VI.Q.cmpTt, VI.Q.chnTt, VI.Q.chnE, VI.Q.ifeE, VI.Q.tup, VI.Q.lst, VI.Q.call, VI.Q.callT, VI.Q.callk, VI.Q.bi, VI.Q.biT, VI.Q.isi, VI.Q.isiT, VI.Q.ix, VI.Q.bm, VI.Q.getv0, VI.Q.getv1, VI.Q.set0, VI.Q.set1, VI.Q.put_nm, VI.Q.put_tup, VI.Q.tg0, VI.Q.tg1, VI.Q.fin_nx, VI.Q.fin_rt, VI.Q.lift1, VI.Q.of1, VI.Q.o_add, VI.Q.o_sub, VI.Q.o_aadd, VI.Q.o_lt, VI.Q.o_le, VI.Q.o_gt, VI.Q.o_ge, VI.Q.o_eq, VI.Q.o_ne, VI.Q.o_eq2, VI.Q.o_ne2, VI.Q.tr_b, VI.Q.tr_i, VI.Q.b_abs, VI.Q.b_max2, VI.Q.b_max3, VI.Q.b_min2, VI.Q.b_intb, VI.Q.b_lent, VI.Q.it0, VI.Q.it1, VI.Q.isI, VI.Q.isB, VI.Q.isT, VI.Q.ap0, VI.Q.ap1, VI.R.bind_ok, VI.R.toS_ok, VI.RS.seq_nx, VI.RS.seq_rt, VI.RS.seq_fail, VI.R.bind_fail, VI.R.toS_fail, VI.forFix, VI.rngL, VI.loopR_nx, VI.loopR_rt, el, e1, en, z2]
    | false =>
      have pl : 0 < ns.length := by cases ns with | nil => cases z2 | cons _ _ => simp
      have ep : posI (ns.length : Int) = true := Hv.blt_t pl
      have ef : fdivOk (ns.length : Int) = true := Bd.fdiv (n := 2) (by unfold Bd; simp; omega) (by omega) (by omega)
      have em : (k : Int) % (ns.length : Int) = ((k % ns.length : Nat) : Int) := by omega
      have eq : (k : Int) / (ns.length : Int) = ((k / ns.length : Nat) : Int) := by omega
      have lm : k % ns.length < ns.length := Nat.mod_lt _ pl
      have e60 : (60 : Int) = ((60 : Nat) : Int) := rfl
      obtain ⟨m', x', el2⟩ := spare_loop d (h.new (.lst [])) (some (.ref 0)) (some (.int k)) (min (k / ns.length) 60) 0 ns[k % ns.length] none
      have sm : smallI ((min (k / ns.length) 60 : Nat) : Int) = true := by unfold smallI; exact Hv.blt_t (by simp; omega)
      have ew : R.of (walk .rng [.int ((min (k / ns.length) 60 : Nat) : Int)] (h.new (.lst []))) = .ok (.fix (rngL 0 (min (k / ns.length) 60))) (h.new (.lst [])) := by simp [R.of, walk, sm]
      have mo1 : ∀ a : Int, VI.mulOk a 31 = true := fun a => by unfold VI.mulOk; simp
      have mo2 : ∀ a : Int, VI.mulOk a 101 = true := fun a => by unfold VI.mulOk; simp
      refine ⟨ns[k % ns.length] * 31 + k + m' * 101, h.new (.lst []), ?_, x1⟩
      simp only [VI.Q.ss0, VI.Q.ss1, VI.Q.sasg, VI.Q.spar, VI.Q.saug, VI.Q.sexp, VI.Q.sret, VI.Q.sretn, VI.Q.sbad, VI.Q.ifS_t, VI.Q.ifS_f, VI.Q.ifR_t, VI.Q.ifR_f, VI.Q.sife, VI.Q.sfor1, VI.Q.whl1, VI.Q.lcGo_fix, VI.Q.lc, VI.Q.lcF0, VI.Q.noX_ok, VI.Q.wk_fix, VI.Q.wk_live,  VI.Q.l0, VI.Q.l1, VI.Q.dn0, VI.Q.dn1, VI.Q.con, VI.Q.var, VI.Q.glo, VI.Q.bin, VI.Q.negV_int, VI.Q.neg, VI.Q.nt, VI.Q.ntT, VI.Q.andE, VI.Q.orE, VI.Q.andTt, VI.Q.orTt, VI.Q.andV1, VI.Q.andV2, VI.Q.orV1, VI.Q.orV2, VI.Q.andT0, VI.Q.andT1, VI.Q.orT0, VI.Q.orT1, VI.Q.cmpE, VI.Q.cmpTt, VI.Q.chnTt, VI.Q.chnE, VI.Q.ifeE, VI.Q.tup, VI.Q.lst, VI.Q.call, VI.Q.callT, VI.Q.callk, VI.Q.bi, VI.Q.biT, VI.Q.isi, VI.Q.isiT, VI.Q.ix, VI.Q.bm, VI.Q.getv0, VI.Q.getv1, VI.Q.set0, VI.Q.set1, VI.Q.put_nm, VI.Q.put_tup, VI.Q.tg0, VI.Q.tg1, VI.Q.fin_nx, VI.Q.fin_rt, VI.Q.lift1, VI.Q.of1, VI.Q.o_add, VI.Q.o_sub, VI.Q.o_aadd, VI.Q.o_lt, VI.Q.o_le, VI.Q.o_gt, VI.Q.o_ge, VI.Q.o_eq, VI.Q.o_ne, VI.Q.o_eq2, VI.Q.o_ne2, VI.Q.tr_b, VI.Q.tr_i, VI.Q.b_abs, VI.Q.b_max2, VI.Q.b_max3, VI.Q.b_min2, VI.Q.b_intb, VI.Q.b_lent, VI.Q.it0, VI.Q.it1, VI.Q.isI, VI.Q.isB, VI.Q.isT, VI.Q.ap0, VI.Q.ap1, VI.R.bind_ok, VI.R.toS_ok, VI.RS.seq_nx, VI.RS.seq_rt, VI.RS.seq_fail, VI.R.bind_fail, VI.R.toS_fail, VI.forFix, VI.rngL, VI.loopR_nx, VI.loopR_rt, el, e1, en, z2, el', VI.Q.o_mod _ _ _ ep, VI.Q.o_fdiv _ _ _ ef, em, eq, item_of (h.new (.lst [])) e' lm]
      rw [e60]
      simp only [VI.Q.ss0, VI.Q.ss1, VI.Q.sasg, VI.Q.spar, VI.Q.saug, VI.Q.sexp, VI.Q.sret, VI.Q.sretn, VI.Q.sbad, VI.Q.ifS_t, VI.Q.ifS_f, VI.Q.ifR_t, VI.Q.ifR_f, VI.Q.sife, VI.Q.sfor1, VI.Q.whl1, VI.Q.lcGo_fix, VI.Q.lc, VI.Q.lcF0, VI.Q.noX_ok, VI.Q.wk_fix, VI.Q.wk_live,  VI.Q.l0, VI.Q.l1, VI.Q.dn0, VI.Q.dn1, VI.Q.con, VI.Q.var, VI.Q.glo, VI.Q.bin, VI.Q.negV_int, VI.Q.neg, VI.Q.nt, VI.Q.ntT, VI.Q.andE, VI.Q.orE, VI.Q.andTt, VI.Q.orTt, VI.Q.andV1, VI.Q.andV2, VI.Q.orV1, VI.Q.orV2, VI.Q.andT0, VI.Q.andT1, VI.Q.orT0, VI.Q.orT1, VI.Q.cmpE, VI.Q.cmpTt, VI.Q.chnTt, VI.Q.chnE, VI.Q.ifeE, VI.Q.tup, VI.Q.lst, VI.Q.call, VI.Q.callT, VI.Q.callk, VI.Q.bi, VI.Q.biT, VI.Q.isi, VI.Q.isiT, VI.Q.ix, VI.Q.bm, VI.Q.getv0, VI.Q.getv1, VI.Q.set0, VI.Q.set1, VI.Q.put_nm, VI.Q.put_tup, VI.Q.tg0, VI.Q.tg1, VI.Q.fin_nx, VI.Q.fin_rt, VI.Q.lift1, VI.Q.of1, VI.Q.o_add, VI.Q.o_sub, VI.Q.o_aadd, VI.Q.o_lt, VI.Q.o_le, VI.Q.o_gt, VI.Q.o_ge, VI.Q.o_eq, VI.Q.o_ne, VI.Q.o_eq2, VI.Q.o_ne2, VI.Q.tr_b, VI.Q.tr_i, VI.Q.b_abs, VI.Q.b_max2, VI.Q.b_max3, VI.Q.b_min2, VI.Q.b_intb, VI.Q.b_lent, VI.Q.it0, VI.Q.it1, VI.Q.isI, VI.Q.isB, VI.Q.isT, VI.Q.ap0, VI.Q.ap1, VI.R.bind_ok, VI.R.toS_ok, VI.RS.seq_nx, VI.RS.seq_rt, VI.RS.seq_fail, VI.R.bind_fail, VI.R.toS_fail, VI.forFix, VI.rngL, VI.loopR_nx, VI.loopR_rt, imin_nat, ew, el2, VI.Q.o_mul _ _ _ (mo1 _), VI.Q.o_mul _ _ _ (mo2 _), VI.Q.o_mod _ _ _ ep, el', em, item_of (h.new (.lst [])) e' lm]
end

section
variable {ns : List Int}
theorem pos_md {b : Int} (h : 0 < b) : posI b = true := by
  cases b with
  | ofNat n => exact Hv.blt_t (by simpa using h)
  | negSucc n => exact absurd h (by omega)
theorem c25 (d k : Nat) {b : Int} (hb : 0 < b) (h : Hv) (e : h.get 0 = some (.frz (ns.map VV.int))) (hl : ns.length ≤ 63) : ∃ (v : Int) (h' : Hv), rn (d + 2) 25 [.ref 0, .int k, .int b] h = .ok (.int v) h' ∧ (0 ≤ v ∧ v < b) ∧ Ext h h' := by
  obtain ⟨c, h1, e1, x1⟩ := c24 d k h e hl
  have m1 : ∀ a : Int, VI.mulOk a 1103515245 = true := fun a => by unfold VI.mulOk; simp
  have m2 : VI.mulOk 7919 (k : Int) = true := by unfold VI.mulOk; simp
  have p1 : posI 2147483647 = true := rfl
  have p2 : posI 999983 = true := rfl
  have p3 := pos_md hb
  rw [q25]
  unfold b25
  generalize hz : (c * 1103515245 + 7919 * (k : Int) + 12345) % 2147483647 = z
  have z1 : 0 ≤ z := by omega
  have z2 : z < 2147483647 := by omega
  have ep : ∀ h, binop .pow (.int z) (.int 5) h = some (.int (z ^ 5), h) := fun h => VI.Q.o_pow h z 5 (by omega) (by omega)
  refine ⟨z ^ 5 % 2147483647 % 999983 % b, h1, ?_, ⟨Int.emod_nonneg _ (by omega), Int.emod_lt_of_pos _ hb⟩, x1⟩
  simp only [VI.Q.ss0, VI.Q.ss1, VI.Q.sasg, VI.Q.spar, VI.Q.saug, VI.Q.sexp, VI.Q.sret, VI.Q.sretn, VI.Q.sbad, VI.Q.ifS_t, VI.Q.ifS_f, VI.Q.ifR_t, VI.Q.ifR_f, VI.Q.sife, VI.Q.sfor1, VI.Q.whl1, VI.Q.lcGo_fix, VI.Q.lc, VI.Q.lcF0, VI.Q.noX_ok, VI.Q.wk_fix, VI.Q.wk_live,  VI.Q.l0, VI.Q.l1, VI.Q.dn0, VI.Q.dn1, VI.Q.con, VI.Q.var, VI.Q.glo, VI.Q.bin, VI.Q.negV_int, VI.Q.neg, VI.Q.nt, VI.Q.ntT, VI.Q.andE, VI.Q.orE, VI.Q.andTt, VI.Q.orTt, VI.Q.andV1, VI.Q.andV2, VI.Q.orV1, VI.Q.orV2, VI.Q.andT0, VI.Q.andT1, VI.Q.orT0, VI.Q.orT1, VI.Q.cmpE, VI.Q.cmpTt, VI.Q.chnTt, VI.Q.chnE, VI.Q.ifeE, VI.Q.tup, VI.Q.lst, VI.Q.call, VI.Q.callT, VI.Q.callk, VI.Q.bi, VI.Q.biT, VI.Q.isi, VI.Q.isiT, VI.Q.ix, VI.Q.bm, VI.Q.getv0, VI.Q.getv1, VI.Q.set0, VI.Q.set1, VI.Q.put_nm, VI.Q.put_tup, VI.Q.tg0, VI.Q.tg1, VI.Q.fin_nx, VI.Q.fin_rt, VI.Q.lift1, VI.Q.of1, VI.Q.o_add, VI.Q.o_sub, VI.Q.o_aadd, VI.Q.o_lt, VI.Q.o_le, VI.Q.o_gt, VI.Q.o_ge, VI.Q.o_eq, VI.Q.o_ne, VI.Q.o_eq2, VI.Q.o_ne2, VI.Q.tr_b, VI.Q.tr_i, VI.Q.b_abs, VI.Q.b_max2, VI.Q.b_max3, VI.Q.b_min2, VI.Q.b_intb, VI.Q.b_lent, VI.Q.it0, VI.Q.it1, VI.Q.isI, VI.Q.isB, VI.Q.isT, VI.Q.ap0, VI.Q.ap1, VI.R.bind_ok, VI.R.toS_ok, VI.RS.seq_nx, VI.RS.seq_rt, VI.RS.seq_fail, VI.R.bind_fail, VI.R.toS_fail, VI.forFix, VI.rngL, VI.loopR_nx, VI.loopR_rt, e1, VI.Q.o_mul _ _ _ (m1 _), VI.Q.o_mul _ _ _ m2, VI.Q.o_mod _ _ _ p1, VI.Q.o_mod _ _ _ p2, VI.Q.o_mod _ _ _ p3, hz, ep]
def Gd (ns : List Int) (h : Hv) (m : Nat) : Prop := h.get 0 = some (.frz (ns.map VV.int)) ∧ ∃ xs, h.get 1 = some (.lst xs) ∧ xs.length = m
theorem Gd.new {h : Hv} {m : Nat} {o : VO} (g : Gd ns h m) : Gd ns (h.new o) m := by
  obtain ⟨g1, xs, g2, g3⟩ := g
  have l1 := Hv.get_lt g1
  have l2 := Hv.get_lt g2
  exact ⟨by rw [Hv.get_new, if_neg (by omega)]; exact g1, xs, by rw [Hv.get_new, if_neg (by omega)]; exact g2, g3⟩
theorem c26 (d : Nat) {b : Int} (hb : 0 < b) (h : Hv) {m : Nat} (g : Gd ns h m) (hm : m < 1000) (hl : ns.length ≤ 63) : ∃ (v : Int) (h' : Hv), rn (d + 3) 26 [.ref 0, .ref 1, .int b] h = .ok (.int v) h' ∧ (0 ≤ v ∧ v < b) ∧ Gd ns h' (m + 1) := by
  obtain ⟨g1, xs, g2, g3⟩ := g
  have l2 := Hv.get_lt g2
  have k1 : (h.put 1 (.lst (xs ++ [.int 0]))).get 0 = some (.frz (ns.map VV.int)) := by rw [Hv.get_put _ _ _ _ l2, if_neg (by omega)]; exact g1
  have k2 : (h.put 1 (.lst (xs ++ [.int 0]))).get 1 = some (.lst (xs ++ [.int 0])) := by rw [Hv.get_put _ _ _ _ l2, if_pos rfl]
  obtain ⟨v, h', e, p, x⟩ := c25 (ns := ns) d (m + 1) hb (h.put 1 (.lst (xs ++ [.int 0]))) k1 hl
  have el := len_ofL _ k2
  have ln : (xs ++ [VV.int 0]).length = m + 1 := by rw [List.length_append, g3]; rfl
  rw [ln] at el
  refine ⟨v, h', ?_, p, ?_⟩
  · rw [q26]
    unfold b26
    simp only [VI.Q.ss0, VI.Q.ss1, VI.Q.sasg, VI.Q.spar, VI.Q.saug, VI.Q.sexp, VI.Q.sret, VI.Q.sretn, VI.Q.sbad, VI.Q.ifS_t, VI.Q.ifS_f, VI.Q.ifR_t, VI.Q.ifR_f, VI.Q.sife, VI.Q.sfor1, VI.Q.whl1, VI.Q.lcGo_fix, VI.Q.lc, VI.Q.lcF0, VI.Q.noX_ok, VI.Q.wk_fix, VI.Q.wk_live,  VI.Q.l0, VI.Q.l1, VI.Q.dn0, VI.Q.dn1, VI.Q.con, VI.Q.var, VI.Q.glo, VI.Q.bin, VI.Q.negV_int, VI.Q.neg, VI.Q.nt, VI.Q.ntT, VI.Q.andE, VI.Q.orE, VI.Q.andTt, VI.Q.orTt, VI.Q.andV1, VI.Q.andV2, VI.Q.orV1, VI.Q.orV2, VI.Q.andT0, VI.Q.andT1, VI.Q.orT0, VI.Q.orT1, VI.Q.cmpE, VI.Q.cmpTt, VI.Q.chnTt, VI.Q.chnE, VI.Q.ifeE, VI.Q.tup, VI.Q.lst, VI.Q.call, VI.Q.callT, VI.Q.callk, VI.Q.bi, VI.Q.biT, VI.Q.isi, VI.Q.isiT, VI.Q.ix, VI.Q.bm, VI.Q.getv0, VI.Q.getv1, VI.Q.set0, VI.Q.set1, VI.Q.put_nm, VI.Q.put_tup, VI.Q.tg0, VI.Q.tg1, VI.Q.fin_nx, VI.Q.fin_rt, VI.Q.lift1, VI.Q.of1, VI.Q.o_add, VI.Q.o_sub, VI.Q.o_aadd, VI.Q.o_lt, VI.Q.o_le, VI.Q.o_gt, VI.Q.o_ge, VI.Q.o_eq, VI.Q.o_ne, VI.Q.o_eq2, VI.Q.o_ne2, VI.Q.tr_b, VI.Q.tr_i, VI.Q.b_abs, VI.Q.b_max2, VI.Q.b_max3, VI.Q.b_min2, VI.Q.b_intb, VI.Q.b_lent, VI.Q.it0, VI.Q.it1, VI.Q.isI, VI.Q.isB, VI.Q.isT, VI.Q.ap0, VI.Q.ap1, VI.R.bind_ok, VI.R.toS_ok, VI.RS.seq_nx, VI.RS.seq_rt, VI.RS.seq_fail, VI.R.bind_fail, VI.R.toS_fail, VI.forFix, VI.rngL, VI.loopR_nx, VI.loopR_rt, VI.Q.bmApp _ _ _ g2, VI.Q.app1 _ _ g2 (show xs.length < 1000000 by omega), el, e]
  · exact ⟨by rw [x.2 0 (Hv.get_lt k1)]; exact k1, _, by rw [x.2 1 (Hv.get_lt k2)]; exact k2, ln⟩
end
/-! ### sums, products, at level 9 -/
def pl (f : Int) (s : Nat) (g : Int) (t : Nat) : Int := f * 10 ^ (max s t - s) + 1 * (g * 10 ^ (max s t - t))
def mi (f : Int) (s : Nat) (g : Int) (t : Nat) : Int := f * 10 ^ (max s t - s) + -1 * (g * 10 ^ (max s t - t))
theorem ats_le {f : Int} {s m : Nat} (h : s ≤ m) : ats f s m = f * 10 ^ (m - s) := if_pos h
theorem pl_bd {f g : Int} {s t n k : Nat} (b1 : Bd n f) (b2 : Bd n g) (hs : s ≤ k) (ht : t ≤ k) : Bd (n + k + 1) (pl f s g t) := by
  unfold pl
  rw [Int.one_mul]
  exact ((b1.mul (Bd.ten _)).mono (show n + (max s t - s) ≤ n + k by omega)).add ((b2.mul (Bd.ten _)).mono (show n + (max s t - t) ≤ n + k by omega))
theorem mi_bd {f g : Int} {s t n k : Nat} (b1 : Bd n f) (b2 : Bd n g) (hs : s ≤ k) (ht : t ≤ k) : Bd (n + k + 1) (mi f s g t) := by
  unfold mi
  have e : -1 * (g * 10 ^ (max s t - t)) = -1 * g * 10 ^ (max s t - t) := by rw [Int.mul_assoc]
  have b3 : Bd n (-1 * g) := by unfold Bd at *; omega
  rw [e]
  exact ((b1.mul (Bd.ten _)).mono (show n + (max s t - s) ≤ n + k by omega)).add ((b3.mul (Bd.ten _)).mono (show n + (max s t - t) ≤ n + k by omega))
theorem P {f g : Int} {s t : Nat} (b1 : Bd 60 f) (b2 : Bd 60 g) (hs : s ≤ 20) (ht : t ≤ 20) (h : Hv) : rn 9 17 [nm f s, nm g t] h = .ok (nm (pl f s g t) (max s t)) (h.new (.lst [nm f s, nm g t])) := by
  have e := c17 4 h b1 b2 (by omega) (by omega) (show s ≤ 60 by omega) (show t ≤ 60 by omega) (by rw [ats_le (Nat.le_max_left s t), ats_le (Nat.le_max_right s t)]; exact (pl_bd b1 b2 hs ht).fig (by omega))
  rw [ats_le (Nat.le_max_left s t), ats_le (Nat.le_max_right s t)] at e
  exact e
theorem Mi {f g : Int} {s t : Nat} (b1 : Bd 60 f) (b2 : Bd 60 g) (hs : s ≤ 20) (ht : t ≤ 20) (h : Hv) : rn 9 18 [nm f s, nm g t] h = .ok (nm (mi f s g t) (max s t)) (h.new (.lst [nm f s, nm g t])) := by
  have e := c18 4 h b1 b2 (by omega) (by omega) (show s ≤ 60 by omega) (show t ≤ 60 by omega) (by rw [ats_le (Nat.le_max_left s t), ats_le (Nat.le_max_right s t)]; exact (mi_bd b1 b2 hs ht).fig (by omega))
  rw [ats_le (Nat.le_max_left s t), ats_le (Nat.le_max_right s t)] at e
  exact e
theorem ats_self (f : Int) (s : Nat) : ats f s s = f := by rw [ats_le (Nat.le_refl s), Nat.sub_self]; simp
theorem M {f g : Int} {s t : Nat} (b1 : Bd 60 f) (b2 : Bd 60 g) (hst : s + t ≤ 20) (h : Hv) : rn 9 19 [nm f s, nm g t, .int 20] h = .ok (nm (f * g) (s + t)) (h.new (.lst [nm f s, nm g t])) := by
  have em : min (s + t) (max (max 20 s) t) = s + t := by omega
  have e := c19 4 (w := 20) h b1 b2 (by omega) (by omega) (show s ≤ 30 by omega) (show t ≤ 30 by omega) (by omega) (by rw [em, ats_self]; exact (b1.mul b2).fig (by omega))
  rw [em, ats_self] at e
  exact e
theorem cut_bd {t b : Int} {n : Nat} (h : Bd n t) (hb : 0 < b) : Bd n (cut t b) := by
  unfold Bd at *
  unfold cut
  split
  · rename_i h0
    have h1 : 0 ≤ t / b := Int.ediv_nonneg h0 (Int.le_of_lt hb)
    have h2 : t / b ≤ t := Int.ediv_le_self b h0
    omega
  · rename_i h0
    have h1 : 0 ≤ (0 - t) / b := Int.ediv_nonneg (by omega) (Int.le_of_lt hb)
    have h2 : (0 - t) / b ≤ 0 - t := Int.ediv_le_self b (by omega)
    omega
theorem M0 {f g : Int} {s t : Nat} (b1 : Bd 60 f) (b2 : Bd 60 g) (hs : s ≤ 20) (ht : t ≤ 20) (h : Hv) : rn 9 19 [nm f s, nm g t, .int 0] h = .ok (nm (cut (f * g) (10 ^ (s + t - max s t))) (max s t)) (h.new (.lst [nm f s, nm g t])) := by
  have em : min (s + t) (max (max 0 s) t) = max s t := by omega
  have ea : ats (f * g) (s + t) (max s t) = cut (f * g) (10 ^ (s + t - max s t)) := by
    by_cases z : s + t ≤ max s t
    · have z2 : s + t - max s t = 0 := by omega
      have z3 : max s t - (s + t) = 0 := by omega
      rw [ats_le z, z2, z3]
      unfold cut
      simp
    · unfold ats
      rw [if_neg z]
  have e := c19 4 (w := 0) h b1 b2 (by omega) (by omega) (show s ≤ 30 by omega) (show t ≤ 30 by omega) (by omega) (by rw [em, ea]; exact (cut_bd (b1.mul b2) (ten_pos _)).fig (by omega))
  rw [em, ea] at e
  exact e
theorem Cm {f g : Int} {s t n m : Nat} (b1 : Bd n f) (b2 : Bd m g) (hn : n ≤ 298) (hm : m ≤ 298) (hs : s ≤ 60) (ht : t ≤ 60) (h : Hv) : rn 9 23 [nm f s, nm g t] h = .ok (.int (cmpI (f * 10 ^ t) (g * 10 ^ s))) (h.new (.lst [nm f s, nm g t])) := c23 5 h b1 b2 hn hm hs ht
theorem cmp0 {x y : Int} (h : x = y) : cmpI x y = 0 := by
  subst h
  unfold cmpI
  rw [dF (by omega)]
  rfl
theorem Ov {f g : Int} {s t : Nat} (b1 : Bd 60 f) (b2 : Bd 60 g) (hs : s ≤ 20) (ht : t ≤ 20) (nz : g ≠ 0) (v : Int) (e : sgn (f * 10 ^ (20 + t)) (g * 10 ^ s) = v) (bv : Bd 100 v) (h : Hv) : rn 9 20 [nm f s, nm g t, .int 20] h = .ok (nm v 20) (h.new (.lst [nm f s, nm g t])) := by
  have e := c20 4 (w := 20) h b1 b2 (by omega) (by omega) (show s ≤ 30 by omega) (show t ≤ 30 by omega) (by omega) nz (by rw [e]; exact bv.fig (by omega))
  subst v
  exact e
theorem bd_pow {n : Nat} {f : Int} (b : Bd n f) : ∀ e : Nat, Bd (n * e) (f ^ e)
  | 0 => by unfold Bd; simp
  | e + 1 => by rw [Int.pow_succ, Nat.mul_succ]; exact (bd_pow b e).mul b
theorem Pw {f : Int} {s e : Nat} (b : Bd 10 f) (he : e ≤ 3) (hs : s ≤ 3) (h : Hv) : rn 9 21 [nm f s, nm e 0, .int 20] h = .ok (nm (f ^ e) (e * s)) (h.new (.lst [nm f s, nm e 0])) := by
  have hes : e * s ≤ 9 := Nat.mul_le_mul he hs
  have em : min (e * s) (max 20 s) = e * s := by omega
  have bb : Bd 60 (f ^ e) := (bd_pow b e).mono (by omega)
  have e := c21 4 (w := 20) (s := s) (n := 10) h b (by omega) (by omega) (by omega) (show e ≤ 10 by omega) (by rw [em, ats_self]; exact bb.fig (by omega)) (bb.mono (by omega))
  rw [em, ats_self] at e
  exact e
theorem Rt {f : Int} {s r : Nat} (b : Bd 60 f) (f0 : 0 ≤ f) (hs : s ≤ 20) (e : f * 10 ^ (40 - s) = ((r * r : Nat) : Int)) (hr : r * r ≤ 10 ^ 100) (br : Bd 60 (r : Int)) (h : Hv) : rn 9 22 [nm f s, .int 20] h = .ok (nm r 20) (h.new (.lst [nm f s])) := by
  have em : max 20 s = 20 := by omega
  have e := c22 4 (w := 20) h b (by omega) f0 (show s ≤ 60 by omega) (by omega) (r := r) (by rw [em, ats_le (by omega)]; exact e) hr (br.fig (by omega))
  rw [em] at e
  exact e
def i0 : Sx := .asg (.tup [3, 4, 5]) (.lc (.tup [.bin .sub (.call 26 [.var 0, .var 1, .con (.int 2000)]) (.con (.int 1000)), .call 26 [.var 0, .var 1, .con (.int 4)]]) [6] .rng [.con (.int 3)] [])
def i1 : Sx := .ife (.or_ [.cmp .ne (.call 17 [.call 17 [.var 3, .var 4], .var 5]) (.call 17 [.var 3, .call 17 [.var 4, .var 5]]), .cmp .ne (.ix (.call 17 [.call 18 [.var 3, .var 4], .call 18 [.var 4, .var 3]]) (.con (.int 0))) (.con (.int 0))]) [.ret (.con (.bl false))] []
def i2 : Sx := .ife (.cmp .ne (.callk 19 [.callk 19 [.var 3, .var 4] [] [.con (.int 20)], .var 5] [] [.con (.int 20)]) (.callk 19 [.var 3, .callk 19 [.var 4, .var 5] [] [.con (.int 20)]] [] [.con (.int 20)])) [.ret (.con (.bl false))] []
def i3 : Sx := .par [7, 8] [.callk 19 [.var 3, .call 17 [.var 4, .var 5]] [] [.con (.int 20)], .call 17 [.callk 19 [.var 3, .var 4] [] [.con (.int 20)], .callk 19 [.var 3, .var 5] [] [.con (.int 20)]]]
def i4 : Sx := .par [9, 10] [.call 23 [.callk 19 [.var 3, .var 4] [] [.con (.int 0)], .callk 19 [.var 3, .var 4] [] [.con (.int 20)]], .ife (.cmp .ge (.bin .mul (.ix (.var 3) (.con (.int 0))) (.ix (.var 4) (.con (.int 0)))) (.con (.int 0))) (.con (.int 1)) (.neg (.con (.int 1)))]
def i5 : Sx := .ife (.or_ [.cmp .ne (.call 23 [.var 7, .var 8]) (.con (.int 0)), .cmp .gt (.bin .mul (.var 9) (.var 10)) (.con (.int 0))]) [.ret (.con (.bl false))] []
def i6 : Sx := .ife (.and_ [.cmp .ne (.ix (.var 4) (.con (.int 0))) (.con (.int 0)), .cmp .ne (.call 23 [.callk 20 [.callk 19 [.var 3, .var 4] [] [.con (.int 20)], .var 4] [] [.con (.int 20)], .var 3]) (.con (.int 0))]) [.ret (.con (.bl false))] []
def i7 : Sx := .asg (.nm 11) (.callk 21 [.var 3, .tup [.con (.int 2), .con (.int 0)]] [] [.con (.int 20)])
def i8 : Sx := .ife (.or_ [.cmp .ne (.var 11) (.callk 19 [.var 3, .var 3] [] [.con (.int 20)]), .cmp .ne (.call 23 [.callk 22 [.var 11] [] [.con (.int 20)], .tup [.bi .abs [.ix (.var 3) (.con (.int 0))], .ix (.var 3) (.con (.int 1))]]) (.con (.int 0))]) [.ret (.con (.bl false))] []
def i9 : Sx := .ife (.cmp .ne (.call 23 [.callk 21 [.var 3, .tup [.con (.int 3), .con (.int 0)]] [] [.con (.int 20)], .callk 19 [.var 11, .var 3] [] [.con (.int 20)]]) (.con (.int 0))) [.ret (.con (.bl false))] []
def i10 : Sx := .ife (.cmp .ne (.callk 21 [.var 3, .tup [.con (.int 0), .con (.int 0)]] [] [.con (.int 20)]) (.tup [.con (.int 1), .con (.int 0)])) [.ret (.con (.bl false))] []

/-! ### what the laws want -/
theorem tp {s m M : Nat} (h1 : s ≤ m) (h2 : m ≤ M) : (10 : Int) ^ (m - s) * 10 ^ (M - m) = 10 ^ (M - s) := by rw [← Int.pow_add]; congr 1; omega
theorem pl_assoc (f g u : Int) (s t r : Nat) : pl (pl f s g t) (max s t) u r = pl f s (pl g t u r) (max t r) := by
  have e : max s (max t r) = max (max s t) r := by omega
  unfold pl
  rw [e]
  have a1 := tp (s := s) (m := max s t) (M := max (max s t) r) (by omega) (by omega)
  have a2 := tp (s := t) (m := max s t) (M := max (max s t) r) (by omega) (by omega)
  have a3 := tp (s := t) (m := max t r) (M := max (max s t) r) (by omega) (by omega)
  have a4 := tp (s := r) (m := max t r) (M := max (max s t) r) (by omega) (by omega)
  grind
theorem mi_zero (f g : Int) (s t : Nat) : pl (mi f s g t) (max s t) (mi g t f s) (max t s) = 0 := by
  have e : max t s = max s t := by omega
  unfold pl mi
  rw [e, Nat.max_self, Nat.sub_self]
  grind
theorem distr (f g u : Int) (s t r : Nat) : f * pl g t u r = pl (f * g) (s + t) (f * u) (s + r) := by
  have e1 : max (s + t) (s + r) - (s + t) = max t r - t := by omega
  have e2 : max (s + t) (s + r) - (s + r) = max t r - r := by omega
  unfold pl
  rw [e1, e2]
  grind
theorem cut_mul {v b : Int} (hb : 0 < b) : cut (v * b) b = v := by
  unfold cut
  split
  · exact Int.mul_ediv_cancel v (Int.ne_of_gt hb)
  · have e : 0 - v * b = (-v) * b := by grind
    rw [e, Int.mul_ediv_cancel (-v) (Int.ne_of_gt hb)]
    omega
theorem sgn_mul {v b : Int} (hb : b ≠ 0) : sgn (v * b) b = v := by
  unfold sgn
  split
  · rename_i h
    exact cut_mul h
  · have e : 0 - v * b = v * (0 - b) := by grind
    rw [e]
    exact cut_mul (by omega)
theorem over_eq (f g : Int) (s t : Nat) (hs : s ≤ 20) (nz : g ≠ 0) : sgn (f * g * 10 ^ (20 + t)) (g * 10 ^ (s + t)) = f * 10 ^ (20 - s) := by
  have e : f * g * 10 ^ (20 + t) = f * 10 ^ (20 - s) * (g * 10 ^ (s + t)) := by
    have a : (10 : Int) ^ (20 - s) * 10 ^ (s + t) = 10 ^ (20 + t) := by rw [← Int.pow_add]; congr 1; omega
    grind
  rw [e]
  exact sgn_mul (Int.mul_ne_zero nz (Int.ne_of_gt (ten_pos _)))
theorem short_le (p : Int) (s t : Nat) (sd : Int) (h : sd = if 0 ≤ p then 1 else -1) : cmpI (cut p (10 ^ (s + t - max s t)) * 10 ^ (s + t)) (p * 10 ^ max s t) * sd ≤ 0 := by
  have a : (10 : Int) ^ (s + t) = 10 ^ (s + t - max s t) * 10 ^ max s t := by rw [← Int.pow_add]; congr 1; omega
  have b := ten_pos (s + t - max s t)
  have c := ten_pos (max s t)
  rw [a]
  generalize (10 : Int) ^ (s + t - max s t) = B at *
  generalize (10 : Int) ^ max s t = C at *
  have bb : ∀ q : Bool, 0 ≤ b2i q := fun q => by cases q <;> decide
  by_cases z : 0 ≤ p
  · rw [if_pos z] at h
    have l : p / B * B ≤ p := Int.ediv_mul_le p (Int.ne_of_gt b)
    have l2 : cut p B * (B * C) ≤ p * C := by
      unfold cut
      rw [if_pos z, ← Int.mul_assoc]
      exact Int.mul_le_mul_of_nonneg_right l (Int.le_of_lt c)
    unfold cmpI
    rw [dF (p := p * C < cut p B * (B * C)) (by omega), h]
    have := bb (decide (cut p B * (B * C) < p * C))
    have e : b2i false = 0 := rfl
    rw [e]
    omega
  · rw [if_neg z] at h
    have l : (0 - p) / B * B ≤ 0 - p := Int.ediv_mul_le (0 - p) (Int.ne_of_gt b)
    have l2 : p * C ≤ cut p B * (B * C) := by
      unfold cut
      rw [if_neg z, ← Int.mul_assoc]
      refine Int.mul_le_mul_of_nonneg_right ?_ (Int.le_of_lt c)
      have e : (0 - (0 - p) / B) * B = 0 - (0 - p) / B * B := by grind
      rw [e]
      omega
    unfold cmpI
    rw [dF (p := cut p B * (B * C) < p * C) (by omega), h]
    have := bb (decide (p * C < cut p B * (B * C)))
    have e : b2i false = 0 := rfl
    rw [e]
    omega
/-! ### one turn of the law -/
section
variable {ns : List Int} {f g u : Int} {s t r : Nat} {o2 o6 o7 o8 o9 o10 o11 : Option VV} {m : Nat}
abbrev sl (f g u : Int) (s t r : Nat) (o2 o6 o7 o8 o9 o10 o11 : Option VV) : Sl := [some (.ref 0), some (.ref 1), o2, some (nm f s), some (nm g t), some (nm u r), o6, o7, o8, o9, o10, o11]
theorem t1 (bf : Bd 3 f) (bg : Bd 3 g) (bu : Bd 3 u) (hs : s ≤ 3) (ht : t ≤ 3) (hr : r ≤ 3) (h : Hv) (gd : Gd ns h m) : ∃ h', denS (Gof T) (rn 9) i1 (sl f g u s t r o2 o6 o7 o8 o9 o10 o11) h = .nx (sl f g u s t r o2 o6 o7 o8 o9 o10 o11) h' ∧ Gd ns h' m := by
  have bf' : Bd 60 f := bf.mono (by omega)
  have bg' : Bd 60 g := bg.mono (by omega)
  have bu' : Bd 60 u := bu.mono (by omega)
  have p1 := fun h => P bf' bg' (show s ≤ 20 by omega) (show t ≤ 20 by omega) h
  have p2 := fun h => P (f := pl f s g t) (s := max s t) ((pl_bd bf bg hs ht).mono (by omega)) bu' (show max s t ≤ 20 by omega) (show r ≤ 20 by omega) h
  have p3 := fun h => P bg' bu' (show t ≤ 20 by omega) (show r ≤ 20 by omega) h
  have p4 := fun h => P (g := pl g t u r) (t := max t r) bf' ((pl_bd bg bu ht hr).mono (by omega)) (show s ≤ 20 by omega) (show max t r ≤ 20 by omega) h
  have p5 := fun h => Mi bf' bg' (show s ≤ 20 by omega) (show t ≤ 20 by omega) h
  have p6 := fun h => Mi bg' bf' (show t ≤ 20 by omega) (show s ≤ 20 by omega) h
  have p7 := fun h => P (f := mi f s g t) (s := max s t) (g := mi g t f s) (t := max t s) ((mi_bd bf bg hs ht).mono (by omega)) ((mi_bd bg bf ht hs).mono (by omega)) (show max s t ≤ 20 by omega) (show max t s ≤ 20 by omega) h
  have e1 : max s (max t r) = max (max s t) r := by omega
  rw [← pl_assoc, e1] at p4
  unfold i1
  simp only [VI.Q.ss0, VI.Q.ss1, VI.Q.sasg, VI.Q.spar, VI.Q.saug, VI.Q.sexp, VI.Q.sret, VI.Q.sretn, VI.Q.sbad, VI.Q.ifS_t, VI.Q.ifS_f, VI.Q.ifR_t, VI.Q.ifR_f, VI.Q.sife, VI.Q.sfor1, VI.Q.whl1, VI.Q.lcGo_fix, VI.Q.lc, VI.Q.lcF0, VI.Q.noX_ok, VI.Q.wk_fix, VI.Q.wk_live,  VI.Q.l0, VI.Q.l1, VI.Q.dn0, VI.Q.dn1, VI.Q.con, VI.Q.var, VI.Q.glo, VI.Q.bin, VI.Q.negV_int, VI.Q.neg, VI.Q.nt, VI.Q.ntT, VI.Q.andE, VI.Q.orE, VI.Q.andTt, VI.Q.orTt, VI.Q.andV1, VI.Q.andV2, VI.Q.orV1, VI.Q.orV2, VI.Q.andT0, VI.Q.andT1, VI.Q.orT0, VI.Q.orT1, VI.Q.cmpE, VI.Q.cmpTt, VI.Q.chnTt, VI.Q.chnE, VI.Q.ifeE, VI.Q.tup, VI.Q.lst, VI.Q.call, VI.Q.callT, VI.Q.callk, VI.Q.bi, VI.Q.biT, VI.Q.isi, VI.Q.isiT, VI.Q.ix, VI.Q.bm, VI.Q.getv0, VI.Q.getv1, VI.Q.set0, VI.Q.set1, VI.Q.put_nm, VI.Q.put_tup, VI.Q.tg0, VI.Q.tg1, VI.Q.fin_nx, VI.Q.fin_rt, VI.Q.lift1, VI.Q.of1, VI.Q.o_add, VI.Q.o_sub, VI.Q.o_aadd, VI.Q.o_lt, VI.Q.o_le, VI.Q.o_gt, VI.Q.o_ge, VI.Q.o_eq, VI.Q.o_ne, VI.Q.o_eq2, VI.Q.o_ne2, VI.Q.tr_b, VI.Q.tr_i, VI.Q.b_abs, VI.Q.b_max2, VI.Q.b_max3, VI.Q.b_min2, VI.Q.b_intb, VI.Q.b_lent, VI.Q.it0, VI.Q.it1, VI.Q.isI, VI.Q.isB, VI.Q.isT, VI.Q.ap0, VI.Q.ap1, VI.R.bind_ok, VI.R.toS_ok, VI.RS.seq_nx, VI.RS.seq_rt, VI.RS.seq_fail, VI.R.bind_fail, VI.R.toS_fail, VI.forFix, VI.rngL, VI.loopR_nx, VI.loopR_rt, p1, p2, p3, p4, p5, p6, p7, mi_zero, beq_self_eq_true, Bool.and_true, Bool.not_true]
  exact ⟨_, rfl, by repeat (first | exact gd | apply Gd.new)⟩
theorem t2 (bf : Bd 3 f) (bg : Bd 3 g) (bu : Bd 3 u) (hs : s ≤ 3) (ht : t ≤ 3) (hr : r ≤ 3) (h : Hv) (gd : Gd ns h m) : ∃ h', denS (Gof T) (rn 9) i2 (sl f g u s t r o2 o6 o7 o8 o9 o10 o11) h = .nx (sl f g u s t r o2 o6 o7 o8 o9 o10 o11) h' ∧ Gd ns h' m := by
  have p1 := fun h => M (bf.mono (show 3 ≤ 60 by omega)) (bg.mono (show 3 ≤ 60 by omega)) (show s + t ≤ 20 by omega) h
  have p2 := fun h => M (f := f * g) (s := s + t) ((bf.mul bg).mono (by omega)) (bu.mono (show 3 ≤ 60 by omega)) (show s + t + r ≤ 20 by omega) h
  have p3 := fun h => M (bg.mono (show 3 ≤ 60 by omega)) (bu.mono (show 3 ≤ 60 by omega)) (show t + r ≤ 20 by omega) h
  have p4 := fun h => M (g := g * u) (t := t + r) (bf.mono (show 3 ≤ 60 by omega)) ((bg.mul bu).mono (by omega)) (show s + (t + r) ≤ 20 by omega) h
  rw [← Int.mul_assoc, ← Nat.add_assoc] at p4
  unfold i2
  simp only [VI.Q.ss0, VI.Q.ss1, VI.Q.sasg, VI.Q.spar, VI.Q.saug, VI.Q.sexp, VI.Q.sret, VI.Q.sretn, VI.Q.sbad, VI.Q.ifS_t, VI.Q.ifS_f, VI.Q.ifR_t, VI.Q.ifR_f, VI.Q.sife, VI.Q.sfor1, VI.Q.whl1, VI.Q.lcGo_fix, VI.Q.lc, VI.Q.lcF0, VI.Q.noX_ok, VI.Q.wk_fix, VI.Q.wk_live,  VI.Q.l0, VI.Q.l1, VI.Q.dn0, VI.Q.dn1, VI.Q.con, VI.Q.var, VI.Q.glo, VI.Q.bin, VI.Q.negV_int, VI.Q.neg, VI.Q.nt, VI.Q.ntT, VI.Q.andE, VI.Q.orE, VI.Q.andTt, VI.Q.orTt, VI.Q.andV1, VI.Q.andV2, VI.Q.orV1, VI.Q.orV2, VI.Q.andT0, VI.Q.andT1, VI.Q.orT0, VI.Q.orT1, VI.Q.cmpE, VI.Q.cmpTt, VI.Q.chnTt, VI.Q.chnE, VI.Q.ifeE, VI.Q.tup, VI.Q.lst, VI.Q.call, VI.Q.callT, VI.Q.callk, VI.Q.bi, VI.Q.biT, VI.Q.isi, VI.Q.isiT, VI.Q.ix, VI.Q.bm, VI.Q.getv0, VI.Q.getv1, VI.Q.set0, VI.Q.set1, VI.Q.put_nm, VI.Q.put_tup, VI.Q.tg0, VI.Q.tg1, VI.Q.fin_nx, VI.Q.fin_rt, VI.Q.lift1, VI.Q.of1, VI.Q.o_add, VI.Q.o_sub, VI.Q.o_aadd, VI.Q.o_lt, VI.Q.o_le, VI.Q.o_gt, VI.Q.o_ge, VI.Q.o_eq, VI.Q.o_ne, VI.Q.o_eq2, VI.Q.o_ne2, VI.Q.tr_b, VI.Q.tr_i, VI.Q.b_abs, VI.Q.b_max2, VI.Q.b_max3, VI.Q.b_min2, VI.Q.b_intb, VI.Q.b_lent, VI.Q.it0, VI.Q.it1, VI.Q.isI, VI.Q.isB, VI.Q.isT, VI.Q.ap0, VI.Q.ap1, VI.R.bind_ok, VI.R.toS_ok, VI.RS.seq_nx, VI.RS.seq_rt, VI.RS.seq_fail, VI.R.bind_fail, VI.R.toS_fail, VI.forFix, VI.rngL, VI.loopR_nx, VI.loopR_rt, p1, p2, p3, p4, beq_self_eq_true, Bool.and_true, Bool.not_true]
  exact ⟨_, rfl, by repeat (first | exact gd | apply Gd.new)⟩
abbrev one (f g u : Int) (s t r : Nat) : VV := nm (f * pl g t u r) (s + max t r)
theorem t3 (bf : Bd 3 f) (bg : Bd 3 g) (bu : Bd 3 u) (hs : s ≤ 3) (ht : t ≤ 3) (hr : r ≤ 3) (h : Hv) (gd : Gd ns h m) : ∃ h', denS (Gof T) (rn 9) i3 (sl f g u s t r o2 o6 o7 o8 o9 o10 o11) h = .nx (sl f g u s t r o2 o6 (some (one f g u s t r)) (some (one f g u s t r)) o9 o10 o11) h' ∧ Gd ns h' m := by
  have p1 := fun h => P (bg.mono (show 3 ≤ 60 by omega)) (bu.mono (show 3 ≤ 60 by omega)) (show t ≤ 20 by omega) (show r ≤ 20 by omega) h
  have p2 := fun h => M (g := pl g t u r) (t := max t r) (bf.mono (show 3 ≤ 60 by omega)) ((pl_bd bg bu ht hr).mono (by omega)) (show s + max t r ≤ 20 by omega) h
  have p3 := fun h => M (bf.mono (show 3 ≤ 60 by omega)) (bg.mono (show 3 ≤ 60 by omega)) (show s + t ≤ 20 by omega) h
  have p4 := fun h => M (bf.mono (show 3 ≤ 60 by omega)) (bu.mono (show 3 ≤ 60 by omega)) (show s + r ≤ 20 by omega) h
  have p5 := fun h => P (f := f * g) (s := s + t) (g := f * u) (t := s + r) ((bf.mul bg).mono (by omega)) ((bf.mul bu).mono (by omega)) (show s + t ≤ 20 by omega) (show s + r ≤ 20 by omega) h
  have e1 : max (s + t) (s + r) = s + max t r := by omega
  rw [← distr, e1] at p5
  unfold i3
  simp only [VI.Q.ss0, VI.Q.ss1, VI.Q.sasg, VI.Q.spar, VI.Q.saug, VI.Q.sexp, VI.Q.sret, VI.Q.sretn, VI.Q.sbad, VI.Q.ifS_t, VI.Q.ifS_f, VI.Q.ifR_t, VI.Q.ifR_f, VI.Q.sife, VI.Q.sfor1, VI.Q.whl1, VI.Q.lcGo_fix, VI.Q.lc, VI.Q.lcF0, VI.Q.noX_ok, VI.Q.wk_fix, VI.Q.wk_live,  VI.Q.l0, VI.Q.l1, VI.Q.dn0, VI.Q.dn1, VI.Q.con, VI.Q.var, VI.Q.glo, VI.Q.bin, VI.Q.negV_int, VI.Q.neg, VI.Q.nt, VI.Q.ntT, VI.Q.andE, VI.Q.orE, VI.Q.andTt, VI.Q.orTt, VI.Q.andV1, VI.Q.andV2, VI.Q.orV1, VI.Q.orV2, VI.Q.andT0, VI.Q.andT1, VI.Q.orT0, VI.Q.orT1, VI.Q.cmpE, VI.Q.cmpTt, VI.Q.chnTt, VI.Q.chnE, VI.Q.ifeE, VI.Q.tup, VI.Q.lst, VI.Q.call, VI.Q.callT, VI.Q.callk, VI.Q.bi, VI.Q.biT, VI.Q.isi, VI.Q.isiT, VI.Q.ix, VI.Q.bm, VI.Q.getv0, VI.Q.getv1, VI.Q.set0, VI.Q.set1, VI.Q.put_nm, VI.Q.put_tup, VI.Q.tg0, VI.Q.tg1, VI.Q.fin_nx, VI.Q.fin_rt, VI.Q.lift1, VI.Q.of1, VI.Q.o_add, VI.Q.o_sub, VI.Q.o_aadd, VI.Q.o_lt, VI.Q.o_le, VI.Q.o_gt, VI.Q.o_ge, VI.Q.o_eq, VI.Q.o_ne, VI.Q.o_eq2, VI.Q.o_ne2, VI.Q.tr_b, VI.Q.tr_i, VI.Q.b_abs, VI.Q.b_max2, VI.Q.b_max3, VI.Q.b_min2, VI.Q.b_intb, VI.Q.b_lent, VI.Q.it0, VI.Q.it1, VI.Q.isI, VI.Q.isB, VI.Q.isT, VI.Q.ap0, VI.Q.ap1, VI.R.bind_ok, VI.R.toS_ok, VI.RS.seq_nx, VI.RS.seq_rt, VI.RS.seq_fail, VI.R.bind_fail, VI.R.toS_fail, VI.forFix, VI.rngL, VI.loopR_nx, VI.loopR_rt, p1, p2, p3, p4, p5]
  exact ⟨_, rfl, by repeat (first | exact gd | apply Gd.new)⟩
theorem t4 (bf : Bd 3 f) (bg : Bd 3 g) (hs : s ≤ 3) (ht : t ≤ 3) (h : Hv) (gd : Gd ns h m) : ∃ (h' : Hv) (x y : Int), denS (Gof T) (rn 9) i4 (sl f g u s t r o2 o6 o7 o8 o9 o10 o11) h = .nx (sl f g u s t r o2 o6 o7 o8 (some (.int x)) (some (.int y)) o11) h' ∧ Gd ns h' m ∧ x * y ≤ 0 ∧ y.natAbs ≤ 1 := by
  have p1 := fun h => M0 (bf.mono (show 3 ≤ 60 by omega)) (bg.mono (show 3 ≤ 60 by omega)) (show s ≤ 20 by omega) (show t ≤ 20 by omega) h
  have p2 := fun h => M (bf.mono (show 3 ≤ 60 by omega)) (bg.mono (show 3 ≤ 60 by omega)) (show s + t ≤ 20 by omega) h
  have p3 := fun h => Cm (f := cut (f * g) (10 ^ (s + t - max s t))) (s := max s t) (g := f * g) (t := s + t) (cut_bd (bf.mul bg) (ten_pos _)) (bf.mul bg) (by omega) (by omega) (show max s t ≤ 60 by omega) (show s + t ≤ 60 by omega) h
  have mo := bf.mulOk bg (by omega) (by omega)
  unfold i4
  by_cases z : 0 ≤ f * g
  · simp only [VI.Q.ss0, VI.Q.ss1, VI.Q.sasg, VI.Q.spar, VI.Q.saug, VI.Q.sexp, VI.Q.sret, VI.Q.sretn, VI.Q.sbad, VI.Q.ifS_t, VI.Q.ifS_f, VI.Q.ifR_t, VI.Q.ifR_f, VI.Q.sife, VI.Q.sfor1, VI.Q.whl1, VI.Q.lcGo_fix, VI.Q.lc, VI.Q.lcF0, VI.Q.noX_ok, VI.Q.wk_fix, VI.Q.wk_live,  VI.Q.l0, VI.Q.l1, VI.Q.dn0, VI.Q.dn1, VI.Q.con, VI.Q.var, VI.Q.glo, VI.Q.bin, VI.Q.negV_int, VI.Q.neg, VI.Q.nt, VI.Q.ntT, VI.Q.andE, VI.Q.orE, VI.Q.andTt, VI.Q.orTt, VI.Q.andV1, VI.Q.andV2, VI.Q.orV1, VI.Q.orV2, VI.Q.andT0, VI.Q.andT1, VI.Q.orT0, VI.Q.orT1, VI.Q.cmpE, VI.Q.cmpTt, VI.Q.chnTt, VI.Q.chnE, VI.Q.ifeE, VI.Q.tup, VI.Q.lst, VI.Q.call, VI.Q.callT, VI.Q.callk, VI.Q.bi, VI.Q.biT, VI.Q.isi, VI.Q.isiT, VI.Q.ix, VI.Q.bm, VI.Q.getv0, VI.Q.getv1, VI.Q.set0, VI.Q.set1, VI.Q.put_nm, VI.Q.put_tup, VI.Q.tg0, VI.Q.tg1, VI.Q.fin_nx, VI.Q.fin_rt, VI.Q.lift1, VI.Q.of1, VI.Q.o_add, VI.Q.o_sub, VI.Q.o_aadd, VI.Q.o_lt, VI.Q.o_le, VI.Q.o_gt, VI.Q.o_ge, VI.Q.o_eq, VI.Q.o_ne, VI.Q.o_eq2, VI.Q.o_ne2, VI.Q.tr_b, VI.Q.tr_i, VI.Q.b_abs, VI.Q.b_max2, VI.Q.b_max3, VI.Q.b_min2, VI.Q.b_intb, VI.Q.b_lent, VI.Q.it0, VI.Q.it1, VI.Q.isI, VI.Q.isB, VI.Q.isT, VI.Q.ap0, VI.Q.ap1, VI.R.bind_ok, VI.R.toS_ok, VI.RS.seq_nx, VI.RS.seq_rt, VI.RS.seq_fail, VI.R.bind_fail, VI.R.toS_fail, VI.forFix, VI.rngL, VI.loopR_nx, VI.loopR_rt, p1, p2, p3, VI.Q.o_mul _ _ _ mo, dT z]
    exact ⟨_, _, _, rfl, by repeat (first | exact gd | apply Gd.new), short_le (f * g) s t 1 (if_pos z).symm, by decide⟩
  · simp only [VI.Q.ss0, VI.Q.ss1, VI.Q.sasg, VI.Q.spar, VI.Q.saug, VI.Q.sexp, VI.Q.sret, VI.Q.sretn, VI.Q.sbad, VI.Q.ifS_t, VI.Q.ifS_f, VI.Q.ifR_t, VI.Q.ifR_f, VI.Q.sife, VI.Q.sfor1, VI.Q.whl1, VI.Q.lcGo_fix, VI.Q.lc, VI.Q.lcF0, VI.Q.noX_ok, VI.Q.wk_fix, VI.Q.wk_live,  VI.Q.l0, VI.Q.l1, VI.Q.dn0, VI.Q.dn1, VI.Q.con, VI.Q.var, VI.Q.glo, VI.Q.bin, VI.Q.negV_int, VI.Q.neg, VI.Q.nt, VI.Q.ntT, VI.Q.andE, VI.Q.orE, VI.Q.andTt, VI.Q.orTt, VI.Q.andV1, VI.Q.andV2, VI.Q.orV1, VI.Q.orV2, VI.Q.andT0, VI.Q.andT1, VI.Q.orT0, VI.Q.orT1, VI.Q.cmpE, VI.Q.cmpTt, VI.Q.chnTt, VI.Q.chnE, VI.Q.ifeE, VI.Q.tup, VI.Q.lst, VI.Q.call, VI.Q.callT, VI.Q.callk, VI.Q.bi, VI.Q.biT, VI.Q.isi, VI.Q.isiT, VI.Q.ix, VI.Q.bm, VI.Q.getv0, VI.Q.getv1, VI.Q.set0, VI.Q.set1, VI.Q.put_nm, VI.Q.put_tup, VI.Q.tg0, VI.Q.tg1, VI.Q.fin_nx, VI.Q.fin_rt, VI.Q.lift1, VI.Q.of1, VI.Q.o_add, VI.Q.o_sub, VI.Q.o_aadd, VI.Q.o_lt, VI.Q.o_le, VI.Q.o_gt, VI.Q.o_ge, VI.Q.o_eq, VI.Q.o_ne, VI.Q.o_eq2, VI.Q.o_ne2, VI.Q.tr_b, VI.Q.tr_i, VI.Q.b_abs, VI.Q.b_max2, VI.Q.b_max3, VI.Q.b_min2, VI.Q.b_intb, VI.Q.b_lent, VI.Q.it0, VI.Q.it1, VI.Q.isI, VI.Q.isB, VI.Q.isT, VI.Q.ap0, VI.Q.ap1, VI.R.bind_ok, VI.R.toS_ok, VI.RS.seq_nx, VI.RS.seq_rt, VI.RS.seq_fail, VI.R.bind_fail, VI.R.toS_fail, VI.forFix, VI.rngL, VI.loopR_nx, VI.loopR_rt, p1, p2, p3, VI.Q.o_mul _ _ _ mo, dF z]
    exact ⟨_, _, _, rfl, by repeat (first | exact gd | apply Gd.new), short_le (f * g) s t (-1) (if_neg z).symm, by decide⟩

theorem t5 {x y : Int} (bf : Bd 3 f) (bg : Bd 3 g) (bu : Bd 3 u) (hs : s ≤ 3) (ht : t ≤ 3) (hr : r ≤ 3) (hxy : x * y ≤ 0) (hy : y.natAbs ≤ 1) (h : Hv) (gd : Gd ns h m) : ∃ h', denS (Gof T) (rn 9) i5 (sl f g u s t r o2 o6 (some (one f g u s t r)) (some (one f g u s t r)) (some (.int x)) (some (.int y)) o11) h = .nx (sl f g u s t r o2 o6 (some (one f g u s t r)) (some (one f g u s t r)) (some (.int x)) (some (.int y)) o11) h' ∧ Gd ns h' m := by
  have b1 : Bd 60 (f * pl g t u r) := (bf.mul (pl_bd bg bu ht hr)).mono (by omega)
  have p1 := fun h => Cm b1 b1 (by omega) (by omega) (show s + max t r ≤ 60 by omega) (show s + max t r ≤ 60 by omega) h
  have mo : VI.mulOk x y = true := by
    unfold VI.mulOk
    rw [Bool.or_eq_true_iff, Bool.or_eq_true_iff]
    exact .inr (.inl (Hv.blt_t (by omega)))
  have e0 : cmpI (f * pl g t u r * 10 ^ (s + max t r)) (f * pl g t u r * 10 ^ (s + max t r)) = 0 := cmp0 rfl
  have e1 : decide (0 < x * y) = false := dF (by omega)
  unfold i5
  simp only [VI.Q.ss0, VI.Q.ss1, VI.Q.sasg, VI.Q.spar, VI.Q.saug, VI.Q.sexp, VI.Q.sret, VI.Q.sretn, VI.Q.sbad, VI.Q.ifS_t, VI.Q.ifS_f, VI.Q.ifR_t, VI.Q.ifR_f, VI.Q.sife, VI.Q.sfor1, VI.Q.whl1, VI.Q.lcGo_fix, VI.Q.lc, VI.Q.lcF0, VI.Q.noX_ok, VI.Q.wk_fix, VI.Q.wk_live,  VI.Q.l0, VI.Q.l1, VI.Q.dn0, VI.Q.dn1, VI.Q.con, VI.Q.var, VI.Q.glo, VI.Q.bin, VI.Q.negV_int, VI.Q.neg, VI.Q.nt, VI.Q.ntT, VI.Q.andE, VI.Q.orE, VI.Q.andTt, VI.Q.orTt, VI.Q.andV1, VI.Q.andV2, VI.Q.orV1, VI.Q.orV2, VI.Q.andT0, VI.Q.andT1, VI.Q.orT0, VI.Q.orT1, VI.Q.cmpE, VI.Q.cmpTt, VI.Q.chnTt, VI.Q.chnE, VI.Q.ifeE, VI.Q.tup, VI.Q.lst, VI.Q.call, VI.Q.callT, VI.Q.callk, VI.Q.bi, VI.Q.biT, VI.Q.isi, VI.Q.isiT, VI.Q.ix, VI.Q.bm, VI.Q.getv0, VI.Q.getv1, VI.Q.set0, VI.Q.set1, VI.Q.put_nm, VI.Q.put_tup, VI.Q.tg0, VI.Q.tg1, VI.Q.fin_nx, VI.Q.fin_rt, VI.Q.lift1, VI.Q.of1, VI.Q.o_add, VI.Q.o_sub, VI.Q.o_aadd, VI.Q.o_lt, VI.Q.o_le, VI.Q.o_gt, VI.Q.o_ge, VI.Q.o_eq, VI.Q.o_ne, VI.Q.o_eq2, VI.Q.o_ne2, VI.Q.tr_b, VI.Q.tr_i, VI.Q.b_abs, VI.Q.b_max2, VI.Q.b_max3, VI.Q.b_min2, VI.Q.b_intb, VI.Q.b_lent, VI.Q.it0, VI.Q.it1, VI.Q.isI, VI.Q.isB, VI.Q.isT, VI.Q.ap0, VI.Q.ap1, VI.R.bind_ok, VI.R.toS_ok, VI.RS.seq_nx, VI.RS.seq_rt, VI.RS.seq_fail, VI.R.bind_fail, VI.R.toS_fail, VI.forFix, VI.rngL, VI.loopR_nx, VI.loopR_rt, p1, e0, beq_self_eq_true, Bool.not_true, VI.Q.o_mul _ _ _ mo, e1]
  exact ⟨_, rfl, by repeat (first | exact gd | apply Gd.new)⟩
theorem t6 (bf : Bd 3 f) (bg : Bd 3 g) (hs : s ≤ 3) (ht : t ≤ 3) (h : Hv) (gd : Gd ns h m) : ∃ h', denS (Gof T) (rn 9) i6 (sl f g u s t r o2 o6 o7 o8 o9 o10 o11) h = .nx (sl f g u s t r o2 o6 o7 o8 o9 o10 o11) h' ∧ Gd ns h' m := by
  unfold i6
  by_cases z : g = 0
  · have e1 : (g == 0) = true := by simpa using z
    simp only [VI.Q.ss0, VI.Q.ss1, VI.Q.sasg, VI.Q.spar, VI.Q.saug, VI.Q.sexp, VI.Q.sret, VI.Q.sretn, VI.Q.sbad, VI.Q.ifS_t, VI.Q.ifS_f, VI.Q.ifR_t, VI.Q.ifR_f, VI.Q.sife, VI.Q.sfor1, VI.Q.whl1, VI.Q.lcGo_fix, VI.Q.lc, VI.Q.lcF0, VI.Q.noX_ok, VI.Q.wk_fix, VI.Q.wk_live,  VI.Q.l0, VI.Q.l1, VI.Q.dn0, VI.Q.dn1, VI.Q.con, VI.Q.var, VI.Q.glo, VI.Q.bin, VI.Q.negV_int, VI.Q.neg, VI.Q.nt, VI.Q.ntT, VI.Q.andE, VI.Q.orE, VI.Q.andTt, VI.Q.orTt, VI.Q.andV1, VI.Q.andV2, VI.Q.orV1, VI.Q.orV2, VI.Q.andT0, VI.Q.andT1, VI.Q.orT0, VI.Q.orT1, VI.Q.cmpE, VI.Q.cmpTt, VI.Q.chnTt, VI.Q.chnE, VI.Q.ifeE, VI.Q.tup, VI.Q.lst, VI.Q.call, VI.Q.callT, VI.Q.callk, VI.Q.bi, VI.Q.biT, VI.Q.isi, VI.Q.isiT, VI.Q.ix, VI.Q.bm, VI.Q.getv0, VI.Q.getv1, VI.Q.set0, VI.Q.set1, VI.Q.put_nm, VI.Q.put_tup, VI.Q.tg0, VI.Q.tg1, VI.Q.fin_nx, VI.Q.fin_rt, VI.Q.lift1, VI.Q.of1, VI.Q.o_add, VI.Q.o_sub, VI.Q.o_aadd, VI.Q.o_lt, VI.Q.o_le, VI.Q.o_gt, VI.Q.o_ge, VI.Q.o_eq, VI.Q.o_ne, VI.Q.o_eq2, VI.Q.o_ne2, VI.Q.tr_b, VI.Q.tr_i, VI.Q.b_abs, VI.Q.b_max2, VI.Q.b_max3, VI.Q.b_min2, VI.Q.b_intb, VI.Q.b_lent, VI.Q.it0, VI.Q.it1, VI.Q.isI, VI.Q.isB, VI.Q.isT, VI.Q.ap0, VI.Q.ap1, VI.R.bind_ok, VI.R.toS_ok, VI.RS.seq_nx, VI.RS.seq_rt, VI.RS.seq_fail, VI.R.bind_fail, VI.R.toS_fail, VI.forFix, VI.rngL, VI.loopR_nx, VI.loopR_rt, e1, Bool.not_true]
    exact ⟨_, rfl, gd⟩
  · have e1 : (g == 0) = false := by simpa using z
    have p1 := fun h => M (bf.mono (show 3 ≤ 60 by omega)) (bg.mono (show 3 ≤ 60 by omega)) (show s + t ≤ 20 by omega) h
    have bv : Bd 100 (f * 10 ^ (20 - s)) := (bf.mul (Bd.ten (20 - s))).mono (by omega)
    have p2 := fun h => Ov (f := f * g) (s := s + t) ((bf.mul bg).mono (by omega)) (bg.mono (show 3 ≤ 60 by omega)) (show s + t ≤ 20 by omega) (show t ≤ 20 by omega) z (f * 10 ^ (20 - s)) (over_eq f g s t (by omega) z) bv h
    have p3 := fun h => Cm (f := f * 10 ^ (20 - s)) (s := 20) bv bf (by omega) (by omega) (by omega) (show s ≤ 60 by omega) h
    have e2 : cmpI (f * 10 ^ (20 - s) * 10 ^ s) (f * 10 ^ 20) = 0 := cmp0 (by
      rw [Int.mul_assoc, ← Int.pow_add]
      congr 2
      omega)
    have e3 : ((20 : Nat) : Int) = 20 := rfl
    rw [e2] at p3
    simp only [VI.Q.ss0, VI.Q.ss1, VI.Q.sasg, VI.Q.spar, VI.Q.saug, VI.Q.sexp, VI.Q.sret, VI.Q.sretn, VI.Q.sbad, VI.Q.ifS_t, VI.Q.ifS_f, VI.Q.ifR_t, VI.Q.ifR_f, VI.Q.sife, VI.Q.sfor1, VI.Q.whl1, VI.Q.lcGo_fix, VI.Q.lc, VI.Q.lcF0, VI.Q.noX_ok, VI.Q.wk_fix, VI.Q.wk_live,  VI.Q.l0, VI.Q.l1, VI.Q.dn0, VI.Q.dn1, VI.Q.con, VI.Q.var, VI.Q.glo, VI.Q.bin, VI.Q.negV_int, VI.Q.neg, VI.Q.nt, VI.Q.ntT, VI.Q.andE, VI.Q.orE, VI.Q.andTt, VI.Q.orTt, VI.Q.andV1, VI.Q.andV2, VI.Q.orV1, VI.Q.orV2, VI.Q.andT0, VI.Q.andT1, VI.Q.orT0, VI.Q.orT1, VI.Q.cmpE, VI.Q.cmpTt, VI.Q.chnTt, VI.Q.chnE, VI.Q.ifeE, VI.Q.tup, VI.Q.lst, VI.Q.call, VI.Q.callT, VI.Q.callk, VI.Q.bi, VI.Q.biT, VI.Q.isi, VI.Q.isiT, VI.Q.ix, VI.Q.bm, VI.Q.getv0, VI.Q.getv1, VI.Q.set0, VI.Q.set1, VI.Q.put_nm, VI.Q.put_tup, VI.Q.tg0, VI.Q.tg1, VI.Q.fin_nx, VI.Q.fin_rt, VI.Q.lift1, VI.Q.of1, VI.Q.o_add, VI.Q.o_sub, VI.Q.o_aadd, VI.Q.o_lt, VI.Q.o_le, VI.Q.o_gt, VI.Q.o_ge, VI.Q.o_eq, VI.Q.o_ne, VI.Q.o_eq2, VI.Q.o_ne2, VI.Q.tr_b, VI.Q.tr_i, VI.Q.b_abs, VI.Q.b_max2, VI.Q.b_max3, VI.Q.b_min2, VI.Q.b_intb, VI.Q.b_lent, VI.Q.it0, VI.Q.it1, VI.Q.isI, VI.Q.isB, VI.Q.isT, VI.Q.ap0, VI.Q.ap1, VI.R.bind_ok, VI.R.toS_ok, VI.RS.seq_nx, VI.RS.seq_rt, VI.RS.seq_fail, VI.R.bind_fail, VI.R.toS_fail, VI.forFix, VI.rngL, VI.loopR_nx, VI.loopR_rt, e1, Bool.not_false, p1, p2, p3, beq_self_eq_true, Bool.not_true]
    exact ⟨_, rfl, by repeat (first | exact gd | apply Gd.new)⟩
theorem Pw' {f : Int} {s e : Nat} (b : Bd 10 f) (he : e ≤ 3) (hs : s ≤ 3) (i z : Int) (hi : i = (e : Int)) (hz : z = 0) (h : Hv) : rn 9 21 [nm f s, .tup [.int i, .int z], .int 20] h = .ok (nm (f ^ e) (e * s)) (h.new (.lst [nm f s, .tup [.int i, .int z]])) := by
  subst hi hz
  exact Pw b he hs h
theorem t7 (bf : Bd 3 f) (hs : s ≤ 3) (h : Hv) (gd : Gd ns h m) : ∃ h', denS (Gof T) (rn 9) i7 (sl f g u s t r o2 o6 o7 o8 o9 o10 o11) h = .nx (sl f g u s t r o2 o6 o7 o8 o9 o10 (some (nm (f ^ 2) (2 * s)))) h' ∧ Gd ns h' m := by
  have p1 := fun h => Pw' (e := 2) (bf.mono (show 3 ≤ 10 by omega)) (by omega) hs 2 0 rfl rfl h
  unfold i7
  simp only [VI.Q.ss0, VI.Q.ss1, VI.Q.sasg, VI.Q.spar, VI.Q.saug, VI.Q.sexp, VI.Q.sret, VI.Q.sretn, VI.Q.sbad, VI.Q.ifS_t, VI.Q.ifS_f, VI.Q.ifR_t, VI.Q.ifR_f, VI.Q.sife, VI.Q.sfor1, VI.Q.whl1, VI.Q.lcGo_fix, VI.Q.lc, VI.Q.lcF0, VI.Q.noX_ok, VI.Q.wk_fix, VI.Q.wk_live,  VI.Q.l0, VI.Q.l1, VI.Q.dn0, VI.Q.dn1, VI.Q.con, VI.Q.var, VI.Q.glo, VI.Q.bin, VI.Q.negV_int, VI.Q.neg, VI.Q.nt, VI.Q.ntT, VI.Q.andE, VI.Q.orE, VI.Q.andTt, VI.Q.orTt, VI.Q.andV1, VI.Q.andV2, VI.Q.orV1, VI.Q.orV2, VI.Q.andT0, VI.Q.andT1, VI.Q.orT0, VI.Q.orT1, VI.Q.cmpE, VI.Q.cmpTt, VI.Q.chnTt, VI.Q.chnE, VI.Q.ifeE, VI.Q.tup, VI.Q.lst, VI.Q.call, VI.Q.callT, VI.Q.callk, VI.Q.bi, VI.Q.biT, VI.Q.isi, VI.Q.isiT, VI.Q.ix, VI.Q.bm, VI.Q.getv0, VI.Q.getv1, VI.Q.set0, VI.Q.set1, VI.Q.put_nm, VI.Q.put_tup, VI.Q.tg0, VI.Q.tg1, VI.Q.fin_nx, VI.Q.fin_rt, VI.Q.lift1, VI.Q.of1, VI.Q.o_add, VI.Q.o_sub, VI.Q.o_aadd, VI.Q.o_lt, VI.Q.o_le, VI.Q.o_gt, VI.Q.o_ge, VI.Q.o_eq, VI.Q.o_ne, VI.Q.o_eq2, VI.Q.o_ne2, VI.Q.tr_b, VI.Q.tr_i, VI.Q.b_abs, VI.Q.b_max2, VI.Q.b_max3, VI.Q.b_min2, VI.Q.b_intb, VI.Q.b_lent, VI.Q.it0, VI.Q.it1, VI.Q.isI, VI.Q.isB, VI.Q.isT, VI.Q.ap0, VI.Q.ap1, VI.R.bind_ok, VI.R.toS_ok, VI.RS.seq_nx, VI.RS.seq_rt, VI.RS.seq_fail, VI.R.bind_fail, VI.R.toS_fail, VI.forFix, VI.rngL, VI.loopR_nx, VI.loopR_rt, p1]
  exact ⟨_, rfl, by repeat (first | exact gd | apply Gd.new)⟩
theorem root_eq (f : Int) (s : Nat) (hs : s ≤ 3) : f ^ 2 * 10 ^ (40 - 2 * s) = ((f.natAbs * 10 ^ (20 - s) * (f.natAbs * 10 ^ (20 - s)) : Nat) : Int) := by
  have e : 40 - 2 * s = (20 - s) + (20 - s) := by omega
  have e2 : ((f.natAbs : Nat) : Int) * (f.natAbs : Int) = f * f := Int.natAbs_mul_self
  rw [e, Int.pow_add]
  push_cast
  generalize (10 : Int) ^ (20 - s) = A
  have e3 : (f.natAbs : Int) * A * ((f.natAbs : Int) * A) = (f.natAbs : Int) * (f.natAbs : Int) * (A * A) := by grind
  have e4 : f ^ 2 = f * f := by grind
  first
    | (rw [e3, e2, e4]; done)
    | grind
theorem t8 (bf : Bd 3 f) (hs : s ≤ 3) (h : Hv) (gd : Gd ns h m) : ∃ h', denS (Gof T) (rn 9) i8 (sl f g u s t r o2 o6 o7 o8 o9 o10 (some (nm (f ^ 2) (2 * s)))) h = .nx (sl f g u s t r o2 o6 o7 o8 o9 o10 (some (nm (f ^ 2) (2 * s)))) h' ∧ Gd ns h' m := by
  have p1 := fun h => M (bf.mono (show 3 ≤ 60 by omega)) (bf.mono (show 3 ≤ 60 by omega)) (show s + s ≤ 20 by omega) h
  have e1 : f * f = f ^ 2 := by grind
  have e2 : s + s = 2 * s := by omega
  rw [e1, e2] at p1
  have bq : Bd 60 (f ^ 2) := (bd_pow bf 2).mono (by omega)
  have q0 : 0 ≤ f ^ 2 := by
    rw [← e1]
    rcases Int.le_total 0 f with z | z
    · exact Int.mul_nonneg z z
    · have y := Int.mul_nonneg (show 0 ≤ -f by omega) (show 0 ≤ -f by omega)
      rw [Int.neg_mul_neg] at y
      exact y
  have ba : Bd 3 ((f.natAbs : Nat) : Int) := by unfold Bd at *; simpa using bf
  have br : Bd 60 ((f.natAbs * 10 ^ (20 - s) : Nat) : Int) := by
    have := (ba.mul (Bd.ten (20 - s))).mono (show 3 + (20 - s) ≤ 60 by omega)
    simpa using this
  have hr : f.natAbs * 10 ^ (20 - s) * (f.natAbs * 10 ^ (20 - s)) ≤ 10 ^ 100 := by
    have h1 : f.natAbs * 10 ^ (20 - s) ≤ 10 ^ 3 * 10 ^ 20 := Nat.mul_le_mul bf (Nat.pow_le_pow_right (by omega) (by omega))
    exact Nat.le_trans (Nat.mul_le_mul h1 h1) (by decide +kernel)
  have p2 := fun h => Rt bq q0 (show 2 * s ≤ 20 by omega) (root_eq f s hs) hr br h
  have p3 := fun h => Cm (s := 20) br (ba.mono (show 3 ≤ 60 by omega)) (by omega) (by omega) (by omega) (show s ≤ 60 by omega) h
  have e3 : cmpI (((f.natAbs * 10 ^ (20 - s) : Nat) : Int) * 10 ^ s) ((f.natAbs : Int) * 10 ^ 20) = 0 := cmp0 (by
    have a : (10 : Int) ^ (20 - s) * 10 ^ s = 10 ^ 20 := by rw [← Int.pow_add]; congr 1; omega
    rw [← a]
    push_cast
    grind)
  rw [e3] at p3
  unfold i8
  simp only [VI.Q.ss0, VI.Q.ss1, VI.Q.sasg, VI.Q.spar, VI.Q.saug, VI.Q.sexp, VI.Q.sret, VI.Q.sretn, VI.Q.sbad, VI.Q.ifS_t, VI.Q.ifS_f, VI.Q.ifR_t, VI.Q.ifR_f, VI.Q.sife, VI.Q.sfor1, VI.Q.whl1, VI.Q.lcGo_fix, VI.Q.lc, VI.Q.lcF0, VI.Q.noX_ok, VI.Q.wk_fix, VI.Q.wk_live,  VI.Q.l0, VI.Q.l1, VI.Q.dn0, VI.Q.dn1, VI.Q.con, VI.Q.var, VI.Q.glo, VI.Q.bin, VI.Q.negV_int, VI.Q.neg, VI.Q.nt, VI.Q.ntT, VI.Q.andE, VI.Q.orE, VI.Q.andTt, VI.Q.orTt, VI.Q.andV1, VI.Q.andV2, VI.Q.orV1, VI.Q.orV2, VI.Q.andT0, VI.Q.andT1, VI.Q.orT0, VI.Q.orT1, VI.Q.cmpE, VI.Q.cmpTt, VI.Q.chnTt, VI.Q.chnE, VI.Q.ifeE, VI.Q.tup, VI.Q.lst, VI.Q.call, VI.Q.callT, VI.Q.callk, VI.Q.bi, VI.Q.biT, VI.Q.isi, VI.Q.isiT, VI.Q.ix, VI.Q.bm, VI.Q.getv0, VI.Q.getv1, VI.Q.set0, VI.Q.set1, VI.Q.put_nm, VI.Q.put_tup, VI.Q.tg0, VI.Q.tg1, VI.Q.fin_nx, VI.Q.fin_rt, VI.Q.lift1, VI.Q.of1, VI.Q.o_add, VI.Q.o_sub, VI.Q.o_aadd, VI.Q.o_lt, VI.Q.o_le, VI.Q.o_gt, VI.Q.o_ge, VI.Q.o_eq, VI.Q.o_ne, VI.Q.o_eq2, VI.Q.o_ne2, VI.Q.tr_b, VI.Q.tr_i, VI.Q.b_abs, VI.Q.b_max2, VI.Q.b_max3, VI.Q.b_min2, VI.Q.b_intb, VI.Q.b_lent, VI.Q.it0, VI.Q.it1, VI.Q.isI, VI.Q.isB, VI.Q.isT, VI.Q.ap0, VI.Q.ap1, VI.R.bind_ok, VI.R.toS_ok, VI.RS.seq_nx, VI.RS.seq_rt, VI.RS.seq_fail, VI.R.bind_fail, VI.R.toS_fail, VI.forFix, VI.rngL, VI.loopR_nx, VI.loopR_rt, p1, beq_self_eq_true, Bool.and_true, Bool.not_true, p2, p3]
  exact ⟨_, rfl, by repeat (first | exact gd | apply Gd.new)⟩
theorem t9 (bf : Bd 3 f) (hs : s ≤ 3) (h : Hv) (gd : Gd ns h m) : ∃ h', denS (Gof T) (rn 9) i9 (sl f g u s t r o2 o6 o7 o8 o9 o10 (some (nm (f ^ 2) (2 * s)))) h = .nx (sl f g u s t r o2 o6 o7 o8 o9 o10 (some (nm (f ^ 2) (2 * s)))) h' ∧ Gd ns h' m := by
  have bq : Bd 6 (f ^ 2) := bd_pow bf 2
  have bc : Bd 9 (f ^ 3) := bd_pow bf 3
  have p1 := fun h => Pw' (e := 3) (bf.mono (show 3 ≤ 10 by omega)) (by omega) hs 3 0 rfl rfl h
  have p2 := fun h => M (f := f ^ 2) (s := 2 * s) (bq.mono (by omega)) (bf.mono (show 3 ≤ 60 by omega)) (show 2 * s + s ≤ 20 by omega) h
  have p3 := fun h => Cm (f := f ^ 3) (s := 3 * s) (g := f ^ 2 * f) (t := 2 * s + s) bc (bq.mul bf) (by omega) (by omega) (show 3 * s ≤ 60 by omega) (show 2 * s + s ≤ 60 by omega) h
  have e3 : cmpI (f ^ 3 * 10 ^ (2 * s + s)) (f ^ 2 * f * 10 ^ (3 * s)) = 0 := cmp0 (by
    have a : 2 * s + s = 3 * s := by omega
    rw [a]
    grind)
  rw [e3] at p3
  unfold i9
  simp only [VI.Q.ss0, VI.Q.ss1, VI.Q.sasg, VI.Q.spar, VI.Q.saug, VI.Q.sexp, VI.Q.sret, VI.Q.sretn, VI.Q.sbad, VI.Q.ifS_t, VI.Q.ifS_f, VI.Q.ifR_t, VI.Q.ifR_f, VI.Q.sife, VI.Q.sfor1, VI.Q.whl1, VI.Q.lcGo_fix, VI.Q.lc, VI.Q.lcF0, VI.Q.noX_ok, VI.Q.wk_fix, VI.Q.wk_live,  VI.Q.l0, VI.Q.l1, VI.Q.dn0, VI.Q.dn1, VI.Q.con, VI.Q.var, VI.Q.glo, VI.Q.bin, VI.Q.negV_int, VI.Q.neg, VI.Q.nt, VI.Q.ntT, VI.Q.andE, VI.Q.orE, VI.Q.andTt, VI.Q.orTt, VI.Q.andV1, VI.Q.andV2, VI.Q.orV1, VI.Q.orV2, VI.Q.andT0, VI.Q.andT1, VI.Q.orT0, VI.Q.orT1, VI.Q.cmpE, VI.Q.cmpTt, VI.Q.chnTt, VI.Q.chnE, VI.Q.ifeE, VI.Q.tup, VI.Q.lst, VI.Q.call, VI.Q.callT, VI.Q.callk, VI.Q.bi, VI.Q.biT, VI.Q.isi, VI.Q.isiT, VI.Q.ix, VI.Q.bm, VI.Q.getv0, VI.Q.getv1, VI.Q.set0, VI.Q.set1, VI.Q.put_nm, VI.Q.put_tup, VI.Q.tg0, VI.Q.tg1, VI.Q.fin_nx, VI.Q.fin_rt, VI.Q.lift1, VI.Q.of1, VI.Q.o_add, VI.Q.o_sub, VI.Q.o_aadd, VI.Q.o_lt, VI.Q.o_le, VI.Q.o_gt, VI.Q.o_ge, VI.Q.o_eq, VI.Q.o_ne, VI.Q.o_eq2, VI.Q.o_ne2, VI.Q.tr_b, VI.Q.tr_i, VI.Q.b_abs, VI.Q.b_max2, VI.Q.b_max3, VI.Q.b_min2, VI.Q.b_intb, VI.Q.b_lent, VI.Q.it0, VI.Q.it1, VI.Q.isI, VI.Q.isB, VI.Q.isT, VI.Q.ap0, VI.Q.ap1, VI.R.bind_ok, VI.R.toS_ok, VI.RS.seq_nx, VI.RS.seq_rt, VI.RS.seq_fail, VI.R.bind_fail, VI.R.toS_fail, VI.forFix, VI.rngL, VI.loopR_nx, VI.loopR_rt, p1, p2, p3, beq_self_eq_true, Bool.not_true]
  exact ⟨_, rfl, by repeat (first | exact gd | apply Gd.new)⟩
theorem t10 (bf : Bd 3 f) (hs : s ≤ 3) (h : Hv) (gd : Gd ns h m) : ∃ h', denS (Gof T) (rn 9) i10 (sl f g u s t r o2 o6 o7 o8 o9 o10 o11) h = .nx (sl f g u s t r o2 o6 o7 o8 o9 o10 o11) h' ∧ Gd ns h' m := by
  have p1 := fun h => Pw' (e := 0) (bf.mono (show 3 ≤ 10 by omega)) (by omega) hs 0 0 rfl rfl h
  have e1 : f ^ 0 = 1 := Int.pow_zero f
  have e2 : ((0 * s : Nat) : Int) = 0 := by simp
  unfold i10
  simp only [VI.Q.ss0, VI.Q.ss1, VI.Q.sasg, VI.Q.spar, VI.Q.saug, VI.Q.sexp, VI.Q.sret, VI.Q.sretn, VI.Q.sbad, VI.Q.ifS_t, VI.Q.ifS_f, VI.Q.ifR_t, VI.Q.ifR_f, VI.Q.sife, VI.Q.sfor1, VI.Q.whl1, VI.Q.lcGo_fix, VI.Q.lc, VI.Q.lcF0, VI.Q.noX_ok, VI.Q.wk_fix, VI.Q.wk_live,  VI.Q.l0, VI.Q.l1, VI.Q.dn0, VI.Q.dn1, VI.Q.con, VI.Q.var, VI.Q.glo, VI.Q.bin, VI.Q.negV_int, VI.Q.neg, VI.Q.nt, VI.Q.ntT, VI.Q.andE, VI.Q.orE, VI.Q.andTt, VI.Q.orTt, VI.Q.andV1, VI.Q.andV2, VI.Q.orV1, VI.Q.orV2, VI.Q.andT0, VI.Q.andT1, VI.Q.orT0, VI.Q.orT1, VI.Q.cmpE, VI.Q.cmpTt, VI.Q.chnTt, VI.Q.chnE, VI.Q.ifeE, VI.Q.tup, VI.Q.lst, VI.Q.call, VI.Q.callT, VI.Q.callk, VI.Q.bi, VI.Q.biT, VI.Q.isi, VI.Q.isiT, VI.Q.ix, VI.Q.bm, VI.Q.getv0, VI.Q.getv1, VI.Q.set0, VI.Q.set1, VI.Q.put_nm, VI.Q.put_tup, VI.Q.tg0, VI.Q.tg1, VI.Q.fin_nx, VI.Q.fin_rt, VI.Q.lift1, VI.Q.of1, VI.Q.o_add, VI.Q.o_sub, VI.Q.o_aadd, VI.Q.o_lt, VI.Q.o_le, VI.Q.o_gt, VI.Q.o_ge, VI.Q.o_eq, VI.Q.o_ne, VI.Q.o_eq2, VI.Q.o_ne2, VI.Q.tr_b, VI.Q.tr_i, VI.Q.b_abs, VI.Q.b_max2, VI.Q.b_max3, VI.Q.b_min2, VI.Q.b_intb, VI.Q.b_lent, VI.Q.it0, VI.Q.it1, VI.Q.isI, VI.Q.isB, VI.Q.isT, VI.Q.ap0, VI.Q.ap1, VI.R.bind_ok, VI.R.toS_ok, VI.RS.seq_nx, VI.RS.seq_rt, VI.RS.seq_fail, VI.R.bind_fail, VI.R.toS_fail, VI.forFix, VI.rngL, VI.loopR_nx, VI.loopR_rt, p1, e1, e2, beq_self_eq_true, Bool.and_true, Bool.not_true]
  exact ⟨_, rfl, by repeat (first | exact gd | apply Gd.new)⟩
theorem t0 {o3 o4 o5 : Option VV} (hl : ns.length ≤ 63) (h : Hv) (gd : Gd ns h m) (hm : m ≤ 100) : ∃ (f g u : Int) (s t r : Nat) (h' : Hv), denS (Gof T) (rn 9) i0 [some (.ref 0), some (.ref 1), o2, o3, o4, o5, o6, o7, o8, o9, o10, o11] h = .nx (sl f g u s t r o2 o6 o7 o8 o9 o10 o11) h' ∧ Gd ns h' (m + 6) ∧ (Bd 3 f ∧ Bd 3 g ∧ Bd 3 u) ∧ s ≤ 3 ∧ t ≤ 3 ∧ r ≤ 3 := by
  obtain ⟨v1, h1, e1, p1, g1⟩ := c26 6 (b := 2000) (by omega) h gd (by omega) hl
  obtain ⟨v2, h2, e2, p2, g2⟩ := c26 6 (b := 4) (by omega) h1 g1 (by omega) hl
  obtain ⟨v3, h3, e3, p3, g3⟩ := c26 6 (b := 2000) (by omega) h2 g2 (by omega) hl
  obtain ⟨v4, h4, e4, p4, g4⟩ := c26 6 (b := 4) (by omega) h3 g3 (by omega) hl
  obtain ⟨v5, h5, e5, p5, g5⟩ := c26 6 (b := 2000) (by omega) h4 g4 (by omega) hl
  obtain ⟨v6, h6, e6, p6, g6⟩ := c26 6 (b := 4) (by omega) h5 g5 (by omega) hl
  obtain ⟨s, rfl⟩ := Int.eq_ofNat_of_zero_le p2.1
  obtain ⟨t, rfl⟩ := Int.eq_ofNat_of_zero_le p4.1
  obtain ⟨r, rfl⟩ := Int.eq_ofNat_of_zero_le p6.1
  have e1 : rn 9 26 [.ref 0, .ref 1, .int 2000] h = _ := e1
  have e2 : rn 9 26 [.ref 0, .ref 1, .int 4] h1 = _ := e2
  have e3 : rn 9 26 [.ref 0, .ref 1, .int 2000] h2 = _ := e3
  have e4 : rn 9 26 [.ref 0, .ref 1, .int 4] h3 = _ := e4
  have e5 : rn 9 26 [.ref 0, .ref 1, .int 2000] h4 = _ := e5
  have e6 : rn 9 26 [.ref 0, .ref 1, .int 4] h5 = _ := e6
  have ew : ∀ h, R.of (walk .rng [.int 3] h) = .ok (.fix (rngL 0 3)) h := fun h => rfl
  have er : rngL 0 3 = [.int 0, .int (0 + 1), .int (0 + 1 + 1)] := rfl
  have eg : tgOf [6] = .nm 6 := rfl
  have ewp : wipes [some (.ref 0), some (.ref 1), o2, o3, o4, o5, o6, o7, o8, o9, o10, o11] [6] = [some (.ref 0), some (.ref 1), o2, o3, o4, o5, none, o7, o8, o9, o10, o11] := rfl
  have f1 : ∀ (e : Den) (cs : List Den) (tg : Tg) (σ : Sl) (h : Hv) (x : VV) (xs : List VV), lcFix e cs tg σ (x :: xs) [] h = (putTg tg x σ h).bind fun σ1 h1 => (andT cs σ1 h1).bind fun b h2 => VI.Q.ifR b ((e.e σ1 h2).bind fun v h3 => lcFix e cs tg σ xs ([] ++ [v]) h3) (lcFix e cs tg σ xs [] h2) := fun e cs tg σ h x xs => VI.Q.lcF1 σ h e cs tg x xs [] (by simp)
  have f2 : ∀ (e : Den) (cs : List Den) (tg : Tg) (σ : Sl) (h : Hv) (x : VV) (xs : List VV) (a : VV), lcFix e cs tg σ (x :: xs) [a] h = (putTg tg x σ h).bind fun σ1 h1 => (andT cs σ1 h1).bind fun b h2 => VI.Q.ifR b ((e.e σ1 h2).bind fun v h3 => lcFix e cs tg σ xs ([a] ++ [v]) h3) (lcFix e cs tg σ xs [a] h2) := fun e cs tg σ h x xs a => VI.Q.lcF1 σ h e cs tg x xs [a] (by simp)
  have f3 : ∀ (e : Den) (cs : List Den) (tg : Tg) (σ : Sl) (h : Hv) (x : VV) (xs : List VV) (a b : VV), lcFix e cs tg σ (x :: xs) [a, b] h = (putTg tg x σ h).bind fun σ1 h1 => (andT cs σ1 h1).bind fun z h2 => VI.Q.ifR z ((e.e σ1 h2).bind fun v h3 => lcFix e cs tg σ xs ([a, b] ++ [v]) h3) (lcFix e cs tg σ xs [a, b] h2) := fun e cs tg σ h x xs a b => VI.Q.lcF1 σ h e cs tg x xs [a, b] (by simp)
  unfold i0
  refine ⟨v1 - 1000, v3 - 1000, v5 - 1000, s, t, r, h6.new (.lst [nm (v1 - 1000) s, nm (v3 - 1000) t, nm (v5 - 1000) r]), ?_, g6.new, ⟨by unfold Bd; omega, by unfold Bd; omega, by unfold Bd; omega⟩, by omega, by omega, by omega⟩
  simp only [VI.Q.ss0, VI.Q.ss1, VI.Q.sasg, VI.Q.spar, VI.Q.saug, VI.Q.sexp, VI.Q.sret, VI.Q.sretn, VI.Q.sbad, VI.Q.ifS_t, VI.Q.ifS_f, VI.Q.ifR_t, VI.Q.ifR_f, VI.Q.sife, VI.Q.sfor1, VI.Q.whl1, VI.Q.lcGo_fix, VI.Q.lc, VI.Q.lcF0, VI.Q.noX_ok, VI.Q.wk_fix, VI.Q.wk_live,  VI.Q.l0, VI.Q.l1, VI.Q.dn0, VI.Q.dn1, VI.Q.con, VI.Q.var, VI.Q.glo, VI.Q.bin, VI.Q.negV_int, VI.Q.neg, VI.Q.nt, VI.Q.ntT, VI.Q.andE, VI.Q.orE, VI.Q.andTt, VI.Q.orTt, VI.Q.andV1, VI.Q.andV2, VI.Q.orV1, VI.Q.orV2, VI.Q.andT0, VI.Q.andT1, VI.Q.orT0, VI.Q.orT1, VI.Q.cmpE, VI.Q.cmpTt, VI.Q.chnTt, VI.Q.chnE, VI.Q.ifeE, VI.Q.tup, VI.Q.lst, VI.Q.call, VI.Q.callT, VI.Q.callk, VI.Q.bi, VI.Q.biT, VI.Q.isi, VI.Q.isiT, VI.Q.ix, VI.Q.bm, VI.Q.getv0, VI.Q.getv1, VI.Q.set0, VI.Q.set1, VI.Q.put_nm, VI.Q.put_tup, VI.Q.tg0, VI.Q.tg1, VI.Q.fin_nx, VI.Q.fin_rt, VI.Q.lift1, VI.Q.of1, VI.Q.o_add, VI.Q.o_sub, VI.Q.o_aadd, VI.Q.o_lt, VI.Q.o_le, VI.Q.o_gt, VI.Q.o_ge, VI.Q.o_eq, VI.Q.o_ne, VI.Q.o_eq2, VI.Q.o_ne2, VI.Q.tr_b, VI.Q.tr_i, VI.Q.b_abs, VI.Q.b_max2, VI.Q.b_max3, VI.Q.b_min2, VI.Q.b_intb, VI.Q.b_lent, VI.Q.it0, VI.Q.it1, VI.Q.isI, VI.Q.isB, VI.Q.isT, VI.Q.ap0, VI.Q.ap1, VI.R.bind_ok, VI.R.toS_ok, VI.RS.seq_nx, VI.RS.seq_rt, VI.RS.seq_fail, VI.R.bind_fail, VI.R.toS_fail, VI.forFix, VI.rngL, VI.loopR_nx, VI.loopR_rt, ew, er, eg, ewp, f1, f2, f3, e1, e2, e3, e4, e5, e6, VI.Q.put_tupR _ _ _ _ _ (get_last h6 (.lst [nm (v1 - 1000) s, nm (v3 - 1000) t, nm (v5 - 1000) r]))]
/-- the body of the law's loop -/
theorem turn {o3 o4 o5 : Option VV} (hl : ns.length ≤ 63) (h : Hv) (gd : Gd ns h m) (hm : m ≤ 100) : ∃ (o2' o3' o4' o5' o6' o7' o8' o9' o10' o11' : Option VV) (h' : Hv), denSs (Gof T) (rn 9) [i0, i1, i2, i3, i4, i5, i6, i7, i8, i9, i10] [some (.ref 0), some (.ref 1), o2, o3, o4, o5, o6, o7, o8, o9, o10, o11] h = .nx [some (.ref 0), some (.ref 1), o2', o3', o4', o5', o6', o7', o8', o9', o10', o11'] h' ∧ Gd ns h' (m + 6) := by
  obtain ⟨f, g, u, s, t, r, h0, e0, gd0, ⟨bf, bg, bu⟩, hs, ht, hr⟩ := t0 (o2 := o2) (o3 := o3) (o4 := o4) (o5 := o5) (o6 := o6) (o7 := o7) (o8 := o8) (o9 := o9) (o10 := o10) (o11 := o11) hl h gd hm
  obtain ⟨h1, e1, gd1⟩ := t1 (o2 := o2) (o6 := o6) (o7 := o7) (o8 := o8) (o9 := o9) (o10 := o10) (o11 := o11) bf bg bu hs ht hr h0 gd0
  obtain ⟨h2, e2, gd2⟩ := t2 (o2 := o2) (o6 := o6) (o7 := o7) (o8 := o8) (o9 := o9) (o10 := o10) (o11 := o11) bf bg bu hs ht hr h1 gd1
  obtain ⟨h3, e3, gd3⟩ := t3 (o2 := o2) (o6 := o6) (o7 := o7) (o8 := o8) (o9 := o9) (o10 := o10) (o11 := o11) bf bg bu hs ht hr h2 gd2
  obtain ⟨h4, x, y, e4, gd4, hxy, hy⟩ := t4 (u := u) (r := r) (o2 := o2) (o6 := o6) (o7 := some (one f g u s t r)) (o8 := some (one f g u s t r)) (o9 := o9) (o10 := o10) (o11 := o11) bf bg hs ht h3 gd3
  obtain ⟨h5, e5, gd5⟩ := t5 (o2 := o2) (o6 := o6) (o11 := o11) bf bg bu hs ht hr hxy hy h4 gd4
  obtain ⟨h6, e6, gd6⟩ := t6 (u := u) (r := r) (o2 := o2) (o6 := o6) (o7 := some (one f g u s t r)) (o8 := some (one f g u s t r)) (o9 := some (.int x)) (o10 := some (.int y)) (o11 := o11) bf bg hs ht h5 gd5
  obtain ⟨h7, e7, gd7⟩ := t7 (g := g) (u := u) (t := t) (r := r) (o2 := o2) (o6 := o6) (o7 := some (one f g u s t r)) (o8 := some (one f g u s t r)) (o9 := some (.int x)) (o10 := some (.int y)) (o11 := o11) bf hs h6 gd6
  obtain ⟨h8, e8, gd8⟩ := t8 (g := g) (u := u) (t := t) (r := r) (o2 := o2) (o6 := o6) (o7 := some (one f g u s t r)) (o8 := some (one f g u s t r)) (o9 := some (.int x)) (o10 := some (.int y)) bf hs h7 gd7
  obtain ⟨h9, e9, gd9⟩ := t9 (g := g) (u := u) (t := t) (r := r) (o2 := o2) (o6 := o6) (o7 := some (one f g u s t r)) (o8 := some (one f g u s t r)) (o9 := some (.int x)) (o10 := some (.int y)) bf hs h8 gd8
  obtain ⟨h10, e10, gd10⟩ := t10 (g := g) (u := u) (t := t) (r := r) (o2 := o2) (o6 := o6) (o7 := some (one f g u s t r)) (o8 := some (one f g u s t r)) (o9 := some (.int x)) (o10 := some (.int y)) (o11 := some (nm (f ^ 2) (2 * s))) bf hs h9 gd9
  refine ⟨o2, some (nm f s), some (nm g t), some (nm u r), o6, some (one f g u s t r), some (one f g u s t r), some (.int x), some (.int y), some (nm (f ^ 2) (2 * s)), h10, ?_, gd10⟩
  rw [VI.Q.ss1, e0, RS.seq_nx, VI.Q.ss1, e1, RS.seq_nx, VI.Q.ss1, e2, RS.seq_nx, VI.Q.ss1, e3, RS.seq_nx, VI.Q.ss1, e4, RS.seq_nx, VI.Q.ss1, e5, RS.seq_nx, VI.Q.ss1, e6, RS.seq_nx, VI.Q.ss1, e7, RS.seq_nx, VI.Q.ss1, e8, RS.seq_nx, VI.Q.ss1, e9, RS.seq_nx, VI.Q.ss1, e10, RS.seq_nx]
  rfl
end
theorem b27_eq : b27 = [.asg (.nm 1) (.lst []), .for_ (.nm 2) .rng [.con (.int 3)] [i0, i1, i2, i3, i4, i5, i6, i7, i8, i9, i10], .ret (.con (.bl true))] := rfl
theorem law_ok (ns : List Int) (hl : ns.length ≤ 63) : ∃ h1, run (Gof T) F 10 27 [.ref 0] (hv0 ns) = .ok (.bl true) h1 := by
  have gd : Gd ns ((hv0 ns).new (.lst [])) 0 := by
    refine ⟨?_, [], ?_, rfl⟩
    · rw [Hv.get_new, if_neg (by show ¬ (0 = 0 + 1); omega)]
      unfold hv0
      rw [Hv.get_new]
      rfl
    · rw [Hv.get_new]
      rfl
  obtain ⟨a2, a3, a4, a5, a6, a7, a8, a9, a10, a11, h1, e1, g1⟩ := turn (o2 := some (.int 0)) (o3 := none) (o4 := none) (o5 := none) (o6 := none) (o7 := none) (o8 := none) (o9 := none) (o10 := none) (o11 := none) hl _ gd (by omega)
  obtain ⟨c2, c3, c4, c5, c6, c7, c8, c9, c10, c11, h2, e2, g2⟩ := turn (o2 := some (.int (0 + 1))) (o3 := a3) (o4 := a4) (o5 := a5) (o6 := a6) (o7 := a7) (o8 := a8) (o9 := a9) (o10 := a10) (o11 := a11) hl _ g1 (by omega)
  obtain ⟨d2, d3, d4, d5, d6, d7, d8, d9, d10, d11, h3, e3, g3⟩ := turn (o2 := some (.int (0 + 1 + 1))) (o3 := c3) (o4 := c4) (o5 := c5) (o6 := c6) (o7 := c7) (o8 := c8) (o9 := c9) (o10 := c10) (o11 := c11) hl _ g2 (by omega)
  have ew : ∀ h, R.of (walk .rng [.int 3] h) = .ok (.fix (rngL 0 3)) h := fun h => rfl
  have er : rngL 0 3 = [.int 0, .int (0 + 1), .int (0 + 1 + 1)] := rfl
  have en : (hv0 ns).n = 1 := rfl
  refine ⟨h3, ?_⟩
  show rn (9 + 1) 27 [.ref 0] (hv0 ns) = _
  rw [q27, b27_eq]
  generalize hB : [i0, i1, i2, i3, i4, i5, i6, i7, i8, i9, i10] = B at *
  simp only [VI.Q.ss0, VI.Q.ss1, VI.Q.sasg, VI.Q.spar, VI.Q.saug, VI.Q.sexp, VI.Q.sret, VI.Q.sretn, VI.Q.sbad, VI.Q.ifS_t, VI.Q.ifS_f, VI.Q.ifR_t, VI.Q.ifR_f, VI.Q.sife, VI.Q.sfor1, VI.Q.whl1, VI.Q.lcGo_fix, VI.Q.lc, VI.Q.lcF0, VI.Q.noX_ok, VI.Q.wk_fix, VI.Q.wk_live,  VI.Q.l0, VI.Q.l1, VI.Q.dn0, VI.Q.dn1, VI.Q.con, VI.Q.var, VI.Q.glo, VI.Q.bin, VI.Q.negV_int, VI.Q.neg, VI.Q.nt, VI.Q.ntT, VI.Q.andE, VI.Q.orE, VI.Q.andTt, VI.Q.orTt, VI.Q.andV1, VI.Q.andV2, VI.Q.orV1, VI.Q.orV2, VI.Q.andT0, VI.Q.andT1, VI.Q.orT0, VI.Q.orT1, VI.Q.cmpE, VI.Q.cmpTt, VI.Q.chnTt, VI.Q.chnE, VI.Q.ifeE, VI.Q.tup, VI.Q.lst, VI.Q.call, VI.Q.callT, VI.Q.callk, VI.Q.bi, VI.Q.biT, VI.Q.isi, VI.Q.isiT, VI.Q.ix, VI.Q.bm, VI.Q.getv0, VI.Q.getv1, VI.Q.set0, VI.Q.set1, VI.Q.put_nm, VI.Q.put_tup, VI.Q.tg0, VI.Q.tg1, VI.Q.fin_nx, VI.Q.fin_rt, VI.Q.lift1, VI.Q.of1, VI.Q.o_add, VI.Q.o_sub, VI.Q.o_aadd, VI.Q.o_lt, VI.Q.o_le, VI.Q.o_gt, VI.Q.o_ge, VI.Q.o_eq, VI.Q.o_ne, VI.Q.o_eq2, VI.Q.o_ne2, VI.Q.tr_b, VI.Q.tr_i, VI.Q.b_abs, VI.Q.b_max2, VI.Q.b_max3, VI.Q.b_min2, VI.Q.b_intb, VI.Q.b_lent, VI.Q.it0, VI.Q.it1, VI.Q.isI, VI.Q.isB, VI.Q.isT, VI.Q.ap0, VI.Q.ap1, VI.R.bind_ok, VI.R.toS_ok, VI.RS.seq_nx, VI.RS.seq_rt, VI.RS.seq_fail, VI.R.bind_fail, VI.R.toS_fail, VI.forFix, VI.rngL, VI.loopR_nx, VI.loopR_rt, en, ew, er, e1, e2, e3]
end VI.K39

end
section
set_option maxHeartbeats 0
namespace VI.K39
open PySem PySem.Spec PyProof.Rows L2
def top (i : Nat) : Stmt := PySem.Challenge.pw_scaledesk_k39_whole_laws_of_numbers.main.body.getD i (.Pass ⟨0, 0, 0, 0⟩)
def d0 : He.DefD := ⟨("is_whole", none), "is_whole", "is_whole", defArgs (top 12), defBody (top 12), defScope (top 12), [], []⟩
abbrev p0 : List Str := ["thing", "low", "high"]
abbrev n0 : List Str := ["thing", "low", "high"]
theorem s0 : FnScope n0 p0 (defScope (top 12)) := ⟨rfl, rfl, rfl, by decide +kernel, rfl, by decide +kernel, by decide +kernel⟩
theorem m0 : matchSL (matchS T n0 60 (defScope (top 12))) b0 (defBody (top 12)) = true := by kernel_rfl
def d1 : He.DefD := ⟨("is_number", none), "is_number", "is_number", defArgs (top 13), defBody (top 13), defScope (top 13), [], []⟩
abbrev p1 : List Str := ["thing"]
abbrev n1 : List Str := ["thing"]
theorem s1 : FnScope n1 p1 (defScope (top 13)) := ⟨rfl, rfl, rfl, by decide +kernel, rfl, by decide +kernel, by decide +kernel⟩
theorem m1 : matchSL (matchS T n1 60 (defScope (top 13))) b1 (defBody (top 13)) = true := by kernel_rfl
def d2 : He.DefD := ⟨("need_numbers", none), "need_numbers", "need_numbers", defArgs (top 14), defBody (top 14), defScope (top 14), [], []⟩
abbrev p2 : List Str := ["things"]
abbrev n2 : List Str := ["things", "thing"]
theorem s2 : FnScope n2 p2 (defScope (top 14)) := ⟨rfl, rfl, rfl, by decide +kernel, rfl, by decide +kernel, by decide +kernel⟩
theorem m2 : matchSL (matchS T n2 60 (defScope (top 14))) b2 (defBody (top 14)) = true := by kernel_rfl
def d3 : He.DefD := ⟨("need_scale", none), "need_scale", "need_scale", defArgs (top 15), defBody (top 15), defScope (top 15), [], []⟩
abbrev p3 : List Str := ["scale"]
abbrev n3 : List Str := ["scale"]
theorem s3 : FnScope n3 p3 (defScope (top 15)) := ⟨rfl, rfl, rfl, by decide +kernel, rfl, by decide +kernel, by decide +kernel⟩
theorem m3 : matchSL (matchS T n3 60 (defScope (top 15))) b3 (defBody (top 15)) = true := by kernel_rfl
def d4 : He.DefD := ⟨("raise_to", none), "raise_to", "raise_to", defArgs (top 16), defBody (top 16), defScope (top 16), [], []⟩
abbrev p4 : List Str := ["number", "many"]
abbrev n4 : List Str := ["number", "many", "made", "turn"]
theorem s4 : FnScope n4 p4 (defScope (top 16)) := ⟨rfl, rfl, rfl, by decide +kernel, rfl, by decide +kernel, by decide +kernel⟩
theorem m4 : matchSL (matchS T n4 60 (defScope (top 16))) b4 (defBody (top 16)) = true := by kernel_rfl
def d5 : He.DefD := ⟨("ten", none), "ten", "ten", defArgs (top 17), defBody (top 17), defScope (top 17), [], []⟩
abbrev p5 : List Str := ["many"]
abbrev n5 : List Str := ["many"]
theorem s5 : FnScope n5 p5 (defScope (top 17)) := ⟨rfl, rfl, rfl, by decide +kernel, rfl, by decide +kernel, by decide +kernel⟩
theorem m5 : matchSL (matchS T n5 60 (defScope (top 17))) b5 (defBody (top 17)) = true := by kernel_rfl
def d6 : He.DefD := ⟨("cut_off", none), "cut_off", "cut_off", defArgs (top 18), defBody (top 18), defScope (top 18), [], []⟩
abbrev p6 : List Str := ["top", "bottom"]
abbrev n6 : List Str := ["top", "bottom"]
theorem s6 : FnScope n6 p6 (defScope (top 18)) := ⟨rfl, rfl, rfl, by decide +kernel, rfl, by decide +kernel, by decide +kernel⟩
theorem m6 : matchSL (matchS T n6 60 (defScope (top 18))) b6 (defBody (top 18)) = true := by kernel_rfl
def d7 : He.DefD := ⟨("fitted", none), "fitted", "fitted", defArgs (top 19), defBody (top 19), defScope (top 19), [], []⟩
abbrev p7 : List Str := ["figures", "scale"]
abbrev n7 : List Str := ["figures", "scale"]
theorem s7 : FnScope n7 p7 (defScope (top 19)) := ⟨rfl, rfl, rfl, by decide +kernel, rfl, by decide +kernel, by decide +kernel⟩
theorem m7 : matchSL (matchS T n7 60 (defScope (top 19))) b7 (defBody (top 19)) = true := by kernel_rfl
def d8 : He.DefD := ⟨("at_scale", none), "at_scale", "at_scale", defArgs (top 20), defBody (top 20), defScope (top 20), [], []⟩
abbrev p8 : List Str := ["figures", "scale", "other"]
abbrev n8 : List Str := ["figures", "scale", "other"]
theorem s8 : FnScope n8 p8 (defScope (top 20)) := ⟨rfl, rfl, rfl, by decide +kernel, rfl, by decide +kernel, by decide +kernel⟩
theorem m8 : matchSL (matchS T n8 60 (defScope (top 20))) b8 (defBody (top 20)) = true := by kernel_rfl
def d9 : He.DefD := ⟨("signed", none), "signed", "signed", defArgs (top 21), defBody (top 21), defScope (top 21), [], []⟩
abbrev p9 : List Str := ["top", "bottom"]
abbrev n9 : List Str := ["top", "bottom"]
theorem s9 : FnScope n9 p9 (defScope (top 21)) := ⟨rfl, rfl, rfl, by decide +kernel, rfl, by decide +kernel, by decide +kernel⟩
theorem m9 : matchSL (matchS T n9 60 (defScope (top 21))) b9 (defBody (top 21)) = true := by kernel_rfl
def d10 : He.DefD := ⟨("sum_of", none), "sum_of", "sum_of", defArgs (top 22), defBody (top 22), defScope (top 22), [], []⟩
abbrev p10 : List Str := ["a", "b", "many"]
abbrev n10 : List Str := ["a", "b", "many", "scale"]
theorem s10 : FnScope n10 p10 (defScope (top 22)) := ⟨rfl, rfl, rfl, by decide +kernel, rfl, by decide +kernel, by decide +kernel⟩
theorem m10 : matchSL (matchS T n10 60 (defScope (top 22))) b10 (defBody (top 22)) = true := by kernel_rfl
def d11 : He.DefD := ⟨("product", none), "product", "product", defArgs (top 23), defBody (top 23), defScope (top 23), [], []⟩
abbrev p11 : List Str := ["a", "b", "scale"]
abbrev n11 : List Str := ["a", "b", "scale", "other"]
theorem s11 : FnScope n11 p11 (defScope (top 23)) := ⟨rfl, rfl, rfl, by decide +kernel, rfl, by decide +kernel, by decide +kernel⟩
theorem m11 : matchSL (matchS T n11 60 (defScope (top 23))) b11 (defBody (top 23)) = true := by kernel_rfl
def d12 : He.DefD := ⟨("quotient", none), "quotient", "quotient", defArgs (top 24), defBody (top 24), defScope (top 24), [], []⟩
abbrev p12 : List Str := ["a", "b", "scale"]
abbrev n12 : List Str := ["a", "b", "scale"]
theorem s12 : FnScope n12 p12 (defScope (top 24)) := ⟨rfl, rfl, rfl, by decide +kernel, rfl, by decide +kernel, by decide +kernel⟩
theorem m12 : matchSL (matchS T n12 60 (defScope (top 24))) b12 (defBody (top 24)) = true := by kernel_rfl
def d13 : He.DefD := ⟨("raised", none), "raised", "raised", defArgs (top 25), defBody (top 25), defScope (top 25), [], []⟩
abbrev p13 : List Str := ["a", "b", "scale"]
abbrev n13 : List Str := ["a", "b", "scale", "whole", "part", "made", "other"]
theorem s13 : FnScope n13 p13 (defScope (top 25)) := ⟨rfl, rfl, rfl, by decide +kernel, rfl, by decide +kernel, by decide +kernel⟩
theorem m13 : matchSL (matchS T n13 60 (defScope (top 25))) b13 (defBody (top 25)) = true := by kernel_rfl
def d14 : He.DefD := ⟨("square", none), "square", "square", defArgs (top 26), defBody (top 26), defScope (top 26), [], []⟩
abbrev p14 : List Str := ["number"]
abbrev n14 : List Str := ["number", "low", "high", "middle"]
theorem s14 : FnScope n14 p14 (defScope (top 26)) := ⟨rfl, rfl, rfl, by decide +kernel, rfl, by decide +kernel, by decide +kernel⟩
theorem m14 : matchSL (matchS T n14 60 (defScope (top 26))) b14 (defBody (top 26)) = true := by kernel_rfl
def d15 : He.DefD := ⟨("rooted", none), "rooted", "rooted", defArgs (top 27), defBody (top 27), defScope (top 27), [], []⟩
abbrev p15 : List Str := ["a", "scale"]
abbrev n15 : List Str := ["a", "scale", "other"]
theorem s15 : FnScope n15 p15 (defScope (top 27)) := ⟨rfl, rfl, rfl, by decide +kernel, rfl, by decide +kernel, by decide +kernel⟩
theorem m15 : matchSL (matchS T n15 60 (defScope (top 27))) b15 (defBody (top 27)) = true := by kernel_rfl
def d16 : He.DefD := ⟨("order", none), "order", "order", defArgs (top 28), defBody (top 28), defScope (top 28), [], []⟩
abbrev p16 : List Str := ["a", "b"]
abbrev n16 : List Str := ["a", "b", "first", "second"]
theorem s16 : FnScope n16 p16 (defScope (top 28)) := ⟨rfl, rfl, rfl, by decide +kernel, rfl, by decide +kernel, by decide +kernel⟩
theorem m16 : matchSL (matchS T n16 60 (defScope (top 28))) b16 (defBody (top 28)) = true := by kernel_rfl
def d17 : He.DefD := ⟨("plus", none), "plus", "plus", defArgs (top 29), defBody (top 29), defScope (top 29), [], []⟩
abbrev p17 : List Str := ["a", "b"]
abbrev n17 : List Str := ["a", "b"]
theorem s17 : FnScope n17 p17 (defScope (top 29)) := ⟨rfl, rfl, rfl, by decide +kernel, rfl, by decide +kernel, by decide +kernel⟩
theorem m17 : matchSL (matchS T n17 60 (defScope (top 29))) b17 (defBody (top 29)) = true := by kernel_rfl
def d18 : He.DefD := ⟨("minus", none), "minus", "minus", defArgs (top 30), defBody (top 30), defScope (top 30), [], []⟩
abbrev p18 : List Str := ["a", "b"]
abbrev n18 : List Str := ["a", "b"]
theorem s18 : FnScope n18 p18 (defScope (top 30)) := ⟨rfl, rfl, rfl, by decide +kernel, rfl, by decide +kernel, by decide +kernel⟩
theorem m18 : matchSL (matchS T n18 60 (defScope (top 30))) b18 (defBody (top 30)) = true := by kernel_rfl
def d19 : He.DefD := ⟨("times", none), "times", "times", defArgs (top 31), defBody (top 31), defScope (top 31), [], [("scale", .int 0)]⟩
abbrev p19 : List Str := ["a", "b", "scale"]
abbrev n19 : List Str := ["a", "b", "scale"]
theorem s19 : FnScope n19 p19 (defScope (top 31)) := ⟨rfl, rfl, rfl, by decide +kernel, rfl, by decide +kernel, by decide +kernel⟩
theorem m19 : matchSL (matchS T n19 60 (defScope (top 31))) b19 (defBody (top 31)) = true := by kernel_rfl
def d20 : He.DefD := ⟨("over", none), "over", "over", defArgs (top 32), defBody (top 32), defScope (top 32), [], [("scale", .int 0)]⟩
abbrev p20 : List Str := ["a", "b", "scale"]
abbrev n20 : List Str := ["a", "b", "scale"]
theorem s20 : FnScope n20 p20 (defScope (top 32)) := ⟨rfl, rfl, rfl, by decide +kernel, rfl, by decide +kernel, by decide +kernel⟩
theorem m20 : matchSL (matchS T n20 60 (defScope (top 32))) b20 (defBody (top 32)) = true := by kernel_rfl
def d21 : He.DefD := ⟨("power", none), "power", "power", defArgs (top 33), defBody (top 33), defScope (top 33), [], [("scale", .int 0)]⟩
abbrev p21 : List Str := ["a", "b", "scale"]
abbrev n21 : List Str := ["a", "b", "scale"]
theorem s21 : FnScope n21 p21 (defScope (top 33)) := ⟨rfl, rfl, rfl, by decide +kernel, rfl, by decide +kernel, by decide +kernel⟩
theorem m21 : matchSL (matchS T n21 60 (defScope (top 33))) b21 (defBody (top 33)) = true := by kernel_rfl
def d22 : He.DefD := ⟨("root", none), "root", "root", defArgs (top 34), defBody (top 34), defScope (top 34), [], [("scale", .int 0)]⟩
abbrev p22 : List Str := ["a", "scale"]
abbrev n22 : List Str := ["a", "scale"]
theorem s22 : FnScope n22 p22 (defScope (top 34)) := ⟨rfl, rfl, rfl, by decide +kernel, rfl, by decide +kernel, by decide +kernel⟩
theorem m22 : matchSL (matchS T n22 60 (defScope (top 34))) b22 (defBody (top 34)) = true := by kernel_rfl
def d23 : He.DefD := ⟨("compare", none), "compare", "compare", defArgs (top 35), defBody (top 35), defScope (top 35), [], []⟩
abbrev p23 : List Str := ["a", "b"]
abbrev n23 : List Str := ["a", "b"]
theorem s23 : FnScope n23 p23 (defScope (top 35)) := ⟨rfl, rfl, rfl, by decide +kernel, rfl, by decide +kernel, by decide +kernel⟩
theorem m23 : matchSL (matchS T n23 60 (defScope (top 35))) b23 (defBody (top 35)) = true := by kernel_rfl
def d24 : He.DefD := ⟨("_law_cell_at", none), "_law_cell_at", "_law_cell_at", defArgs (top 37), defBody (top 37), defScope (top 37), [], []⟩
abbrev p24 : List Str := ["_law_script", "_law_k"]
abbrev n24 : List Str := ["_law_script", "_law_k", "_law_spare", "_law_again"]
theorem s24 : FnScope n24 p24 (defScope (top 37)) := ⟨rfl, rfl, rfl, by decide +kernel, rfl, by decide +kernel, by decide +kernel⟩
theorem m24 : matchSL (matchS T n24 60 (defScope (top 37))) b24 (defBody (top 37)) = true := by kernel_rfl
def d25 : He.DefD := ⟨("_law_mixed", none), "_law_mixed", "_law_mixed", defArgs (top 38), defBody (top 38), defScope (top 38), [], []⟩
abbrev p25 : List Str := ["_law_script", "_law_k", "_law_bound"]
abbrev n25 : List Str := ["_law_script", "_law_k", "_law_bound", "_law_drawn"]
theorem s25 : FnScope n25 p25 (defScope (top 38)) := ⟨rfl, rfl, rfl, by decide +kernel, rfl, by decide +kernel, by decide +kernel⟩
theorem m25 : matchSL (matchS T n25 60 (defScope (top 38))) b25 (defBody (top 38)) = true := by kernel_rfl
def d26 : He.DefD := ⟨("_law_draw", none), "_law_draw", "_law_draw", defArgs (top 39), defBody (top 39), defScope (top 39), [], []⟩
abbrev p26 : List Str := ["_law_script", "_law_town", "_law_bound"]
abbrev n26 : List Str := ["_law_script", "_law_town", "_law_bound"]
theorem s26 : FnScope n26 p26 (defScope (top 39)) := ⟨rfl, rfl, rfl, by decide +kernel, rfl, by decide +kernel, by decide +kernel⟩
theorem m26 : matchSL (matchS T n26 60 (defScope (top 39))) b26 (defBody (top 39)) = true := by kernel_rfl
def d27 : He.DefD := ⟨("law", none), "law", "law", defArgs (top 40), defBody (top 40), defScope (top 40), [], []⟩
abbrev p27 : List Str := ["_law_script"]
abbrev n27 : List Str := ["_law_script", "_law_town", "_law_again", "_law_a", "_law_b", "_law_c", "_law_k", "_law_one", "_law_two", "_law_short", "_law_side", "_law_squared"]
theorem s27 : FnScope n27 p27 (defScope (top 40)) := ⟨rfl, rfl, rfl, by decide +kernel, rfl, by decide +kernel, by decide +kernel⟩
theorem m27 : matchSL (matchS T n27 60 (defScope (top 40))) b27 (defBody (top 40)) = true := by kernel_rfl
def fn : List He.DefD := ([d0, d1, d2, d3, d4, d5, d6, d7, d8, d9, d10, d11, d12, d13, d14, d15, d16, d17, d18, d19, d20, d21, d22, d23, d24, d25, d26, d27] : List He.DefD)
def fa : List He.Fa := ([.glo "is_whole", .glo "is_number", .glo "need_numbers", .glo "need_scale", .glo "raise_to", .glo "ten", .glo "cut_off", .glo "fitted", .glo "at_scale", .glo "signed", .glo "sum_of", .glo "product", .glo "quotient", .glo "raised", .glo "square", .glo "rooted", .glo "order", .glo "plus", .glo "minus", .glo "times", .glo "over", .glo "power", .glo "root", .glo "compare", .glo "_law_cell_at", .glo "_law_mixed", .glo "_law_draw", .glo "law", .int "FIGURES" 100000000000000000000000000000000000000000000000000000000000000000000000000000000000000000000000000000000000000000000000000000000000000000000000000000000000000000000000000000000000000000000000000000000000000000000000000000000000000000000000000000000000000000000000000000000000000000000000000000000000, .int "SCALE" 60] : List He.Fa) ++ ([.int "WORK" 20, .free "abs", .free "bool", .free "divmod", .free "int", .free "isinstance", .free "len", .free "max", .free "min", .free "range", .free "tuple"] : List He.Fa)
abbrev Says := He.SaysX fa fn [] [] noLst
def gm (P : Program) (w : World) (K : PySem.W.Frag) (mg : Str → Option Value) (base : Heap) : Gm where
  P := P
  w := w
  K := K
  mg := mg
  base := base
  fa := fun i => match fn[i]? with
    | some d => He.fAd K d.at_
    | none => 0
  ca := fun i => i
  xf := fun _ => "thing"
  ca_inj := fun _ _ e => e
section
variable {P : Program} {w w0 : World} {K : PySem.W.Frag} {mg : Str → Option Value} {h h0 base : Heap}
theorem r0 (X : K.In h) (G : h.Ns mainGlobals mg) (c : Says w0 h0 K) : RowOk (gm P w K mg base) T F 0 "is_whole" 3 := by
  obtain ⟨fd, D⟩ := c.t.d.def_ 0 (d := d0) rfl
  refine ⟨_, _, _, _, _, _, fd, p0, n0, b0, 60, D, s0, rfl, rfl, m0, He.glo_ok X G (c.t.d.fact 0 (f := .glo "is_whole") rfl), ?_, ?_, ?_⟩
  · exact fun _ => FunD.bindsN (ps := p0) D fun _ _ _ _ _ _ us hl => match us, hl with | [_, _, _], _ => rfl
  · exact fun ds e => by cases (show (none : Option (List VV)) = some ds from e)
  · exact fun kn e => by cases (show (none : Option Str) = some kn from e)
theorem r1 (X : K.In h) (G : h.Ns mainGlobals mg) (c : Says w0 h0 K) : RowOk (gm P w K mg base) T F 1 "is_number" 1 := by
  obtain ⟨fd, D⟩ := c.t.d.def_ 1 (d := d1) rfl
  refine ⟨_, _, _, _, _, _, fd, p1, n1, b1, 60, D, s1, rfl, rfl, m1, He.glo_ok X G (c.t.d.fact 1 (f := .glo "is_number") rfl), ?_, ?_, ?_⟩
  · exact fun _ => FunD.bindsN (ps := p1) D fun _ _ _ _ _ _ us hl => match us, hl with | [_], _ => rfl
  · exact fun ds e => by cases (show (none : Option (List VV)) = some ds from e)
  · exact fun kn e => by cases (show (none : Option Str) = some kn from e)
theorem r2 (X : K.In h) (G : h.Ns mainGlobals mg) (c : Says w0 h0 K) : RowOk (gm P w K mg base) T F 2 "need_numbers" 1 := by
  obtain ⟨fd, D⟩ := c.t.d.def_ 2 (d := d2) rfl
  refine ⟨_, _, _, _, _, _, fd, p2, n2, b2, 60, D, s2, rfl, rfl, m2, He.glo_ok X G (c.t.d.fact 2 (f := .glo "need_numbers") rfl), ?_, ?_, ?_⟩
  · exact fun _ => FunD.bindsN (ps := p2) D fun _ _ _ _ _ _ us hl => match us, hl with | [_], _ => rfl
  · exact fun ds e => by cases (show (none : Option (List VV)) = some ds from e)
  · exact fun kn e => by cases (show (none : Option Str) = some kn from e)
theorem r3 (X : K.In h) (G : h.Ns mainGlobals mg) (c : Says w0 h0 K) : RowOk (gm P w K mg base) T F 3 "need_scale" 1 := by
  obtain ⟨fd, D⟩ := c.t.d.def_ 3 (d := d3) rfl
  refine ⟨_, _, _, _, _, _, fd, p3, n3, b3, 60, D, s3, rfl, rfl, m3, He.glo_ok X G (c.t.d.fact 3 (f := .glo "need_scale") rfl), ?_, ?_, ?_⟩
  · exact fun _ => FunD.bindsN (ps := p3) D fun _ _ _ _ _ _ us hl => match us, hl with | [_], _ => rfl
  · exact fun ds e => by cases (show (none : Option (List VV)) = some ds from e)
  · exact fun kn e => by cases (show (none : Option Str) = some kn from e)
theorem r4 (X : K.In h) (G : h.Ns mainGlobals mg) (c : Says w0 h0 K) : RowOk (gm P w K mg base) T F 4 "raise_to" 2 := by
  obtain ⟨fd, D⟩ := c.t.d.def_ 4 (d := d4) rfl
  refine ⟨_, _, _, _, _, _, fd, p4, n4, b4, 60, D, s4, rfl, rfl, m4, He.glo_ok X G (c.t.d.fact 4 (f := .glo "raise_to") rfl), ?_, ?_, ?_⟩
  · exact fun _ => FunD.bindsN (ps := p4) D fun _ _ _ _ _ _ us hl => match us, hl with | [_, _], _ => rfl
  · exact fun ds e => by cases (show (none : Option (List VV)) = some ds from e)
  · exact fun kn e => by cases (show (none : Option Str) = some kn from e)
theorem r5 (X : K.In h) (G : h.Ns mainGlobals mg) (c : Says w0 h0 K) : RowOk (gm P w K mg base) T F 5 "ten" 1 := by
  obtain ⟨fd, D⟩ := c.t.d.def_ 5 (d := d5) rfl
  refine ⟨_, _, _, _, _, _, fd, p5, n5, b5, 60, D, s5, rfl, rfl, m5, He.glo_ok X G (c.t.d.fact 5 (f := .glo "ten") rfl), ?_, ?_, ?_⟩
  · exact fun _ => FunD.bindsN (ps := p5) D fun _ _ _ _ _ _ us hl => match us, hl with | [_], _ => rfl
  · exact fun ds e => by cases (show (none : Option (List VV)) = some ds from e)
  · exact fun kn e => by cases (show (none : Option Str) = some kn from e)
theorem r6 (X : K.In h) (G : h.Ns mainGlobals mg) (c : Says w0 h0 K) : RowOk (gm P w K mg base) T F 6 "cut_off" 2 := by
  obtain ⟨fd, D⟩ := c.t.d.def_ 6 (d := d6) rfl
  refine ⟨_, _, _, _, _, _, fd, p6, n6, b6, 60, D, s6, rfl, rfl, m6, He.glo_ok X G (c.t.d.fact 6 (f := .glo "cut_off") rfl), ?_, ?_, ?_⟩
  · exact fun _ => FunD.bindsN (ps := p6) D fun _ _ _ _ _ _ us hl => match us, hl with | [_, _], _ => rfl
  · exact fun ds e => by cases (show (none : Option (List VV)) = some ds from e)
  · exact fun kn e => by cases (show (none : Option Str) = some kn from e)
theorem r7 (X : K.In h) (G : h.Ns mainGlobals mg) (c : Says w0 h0 K) : RowOk (gm P w K mg base) T F 7 "fitted" 2 := by
  obtain ⟨fd, D⟩ := c.t.d.def_ 7 (d := d7) rfl
  refine ⟨_, _, _, _, _, _, fd, p7, n7, b7, 60, D, s7, rfl, rfl, m7, He.glo_ok X G (c.t.d.fact 7 (f := .glo "fitted") rfl), ?_, ?_, ?_⟩
  · exact fun _ => FunD.bindsN (ps := p7) D fun _ _ _ _ _ _ us hl => match us, hl with | [_, _], _ => rfl
  · exact fun ds e => by cases (show (none : Option (List VV)) = some ds from e)
  · exact fun kn e => by cases (show (none : Option Str) = some kn from e)
theorem r8 (X : K.In h) (G : h.Ns mainGlobals mg) (c : Says w0 h0 K) : RowOk (gm P w K mg base) T F 8 "at_scale" 3 := by
  obtain ⟨fd, D⟩ := c.t.d.def_ 8 (d := d8) rfl
  refine ⟨_, _, _, _, _, _, fd, p8, n8, b8, 60, D, s8, rfl, rfl, m8, He.glo_ok X G (c.t.d.fact 8 (f := .glo "at_scale") rfl), ?_, ?_, ?_⟩
  · exact fun _ => FunD.bindsN (ps := p8) D fun _ _ _ _ _ _ us hl => match us, hl with | [_, _, _], _ => rfl
  · exact fun ds e => by cases (show (none : Option (List VV)) = some ds from e)
  · exact fun kn e => by cases (show (none : Option Str) = some kn from e)
theorem r9 (X : K.In h) (G : h.Ns mainGlobals mg) (c : Says w0 h0 K) : RowOk (gm P w K mg base) T F 9 "signed" 2 := by
  obtain ⟨fd, D⟩ := c.t.d.def_ 9 (d := d9) rfl
  refine ⟨_, _, _, _, _, _, fd, p9, n9, b9, 60, D, s9, rfl, rfl, m9, He.glo_ok X G (c.t.d.fact 9 (f := .glo "signed") rfl), ?_, ?_, ?_⟩
  · exact fun _ => FunD.bindsN (ps := p9) D fun _ _ _ _ _ _ us hl => match us, hl with | [_, _], _ => rfl
  · exact fun ds e => by cases (show (none : Option (List VV)) = some ds from e)
  · exact fun kn e => by cases (show (none : Option Str) = some kn from e)
theorem r10 (X : K.In h) (G : h.Ns mainGlobals mg) (c : Says w0 h0 K) : RowOk (gm P w K mg base) T F 10 "sum_of" 3 := by
  obtain ⟨fd, D⟩ := c.t.d.def_ 10 (d := d10) rfl
  refine ⟨_, _, _, _, _, _, fd, p10, n10, b10, 60, D, s10, rfl, rfl, m10, He.glo_ok X G (c.t.d.fact 10 (f := .glo "sum_of") rfl), ?_, ?_, ?_⟩
  · exact fun _ => FunD.bindsN (ps := p10) D fun _ _ _ _ _ _ us hl => match us, hl with | [_, _, _], _ => rfl
  · exact fun ds e => by cases (show (none : Option (List VV)) = some ds from e)
  · exact fun kn e => by cases (show (none : Option Str) = some kn from e)
theorem r11 (X : K.In h) (G : h.Ns mainGlobals mg) (c : Says w0 h0 K) : RowOk (gm P w K mg base) T F 11 "product" 3 := by
  obtain ⟨fd, D⟩ := c.t.d.def_ 11 (d := d11) rfl
  refine ⟨_, _, _, _, _, _, fd, p11, n11, b11, 60, D, s11, rfl, rfl, m11, He.glo_ok X G (c.t.d.fact 11 (f := .glo "product") rfl), ?_, ?_, ?_⟩
  · exact fun _ => FunD.bindsN (ps := p11) D fun _ _ _ _ _ _ us hl => match us, hl with | [_, _, _], _ => rfl
  · exact fun ds e => by cases (show (none : Option (List VV)) = some ds from e)
  · exact fun kn e => by cases (show (none : Option Str) = some kn from e)
theorem r12 (X : K.In h) (G : h.Ns mainGlobals mg) (c : Says w0 h0 K) : RowOk (gm P w K mg base) T F 12 "quotient" 3 := by
  obtain ⟨fd, D⟩ := c.t.d.def_ 12 (d := d12) rfl
  refine ⟨_, _, _, _, _, _, fd, p12, n12, b12, 60, D, s12, rfl, rfl, m12, He.glo_ok X G (c.t.d.fact 12 (f := .glo "quotient") rfl), ?_, ?_, ?_⟩
  · exact fun _ => FunD.bindsN (ps := p12) D fun _ _ _ _ _ _ us hl => match us, hl with | [_, _, _], _ => rfl
  · exact fun ds e => by cases (show (none : Option (List VV)) = some ds from e)
  · exact fun kn e => by cases (show (none : Option Str) = some kn from e)
theorem r13 (X : K.In h) (G : h.Ns mainGlobals mg) (c : Says w0 h0 K) : RowOk (gm P w K mg base) T F 13 "raised" 3 := by
  obtain ⟨fd, D⟩ := c.t.d.def_ 13 (d := d13) rfl
  refine ⟨_, _, _, _, _, _, fd, p13, n13, b13, 60, D, s13, rfl, rfl, m13, He.glo_ok X G (c.t.d.fact 13 (f := .glo "raised") rfl), ?_, ?_, ?_⟩
  · exact fun _ => FunD.bindsN (ps := p13) D fun _ _ _ _ _ _ us hl => match us, hl with | [_, _, _], _ => rfl
  · exact fun ds e => by cases (show (none : Option (List VV)) = some ds from e)
  · exact fun kn e => by cases (show (none : Option Str) = some kn from e)
theorem r14 (X : K.In h) (G : h.Ns mainGlobals mg) (c : Says w0 h0 K) : RowOk (gm P w K mg base) T F 14 "square" 1 := by
  obtain ⟨fd, D⟩ := c.t.d.def_ 14 (d := d14) rfl
  refine ⟨_, _, _, _, _, _, fd, p14, n14, b14, 60, D, s14, rfl, rfl, m14, He.glo_ok X G (c.t.d.fact 14 (f := .glo "square") rfl), ?_, ?_, ?_⟩
  · exact fun _ => FunD.bindsN (ps := p14) D fun _ _ _ _ _ _ us hl => match us, hl with | [_], _ => rfl
  · exact fun ds e => by cases (show (none : Option (List VV)) = some ds from e)
  · exact fun kn e => by cases (show (none : Option Str) = some kn from e)
theorem r15 (X : K.In h) (G : h.Ns mainGlobals mg) (c : Says w0 h0 K) : RowOk (gm P w K mg base) T F 15 "rooted" 2 := by
  obtain ⟨fd, D⟩ := c.t.d.def_ 15 (d := d15) rfl
  refine ⟨_, _, _, _, _, _, fd, p15, n15, b15, 60, D, s15, rfl, rfl, m15, He.glo_ok X G (c.t.d.fact 15 (f := .glo "rooted") rfl), ?_, ?_, ?_⟩
  · exact fun _ => FunD.bindsN (ps := p15) D fun _ _ _ _ _ _ us hl => match us, hl with | [_, _], _ => rfl
  · exact fun ds e => by cases (show (none : Option (List VV)) = some ds from e)
  · exact fun kn e => by cases (show (none : Option Str) = some kn from e)
theorem r16 (X : K.In h) (G : h.Ns mainGlobals mg) (c : Says w0 h0 K) : RowOk (gm P w K mg base) T F 16 "order" 2 := by
  obtain ⟨fd, D⟩ := c.t.d.def_ 16 (d := d16) rfl
  refine ⟨_, _, _, _, _, _, fd, p16, n16, b16, 60, D, s16, rfl, rfl, m16, He.glo_ok X G (c.t.d.fact 16 (f := .glo "order") rfl), ?_, ?_, ?_⟩
  · exact fun _ => FunD.bindsN (ps := p16) D fun _ _ _ _ _ _ us hl => match us, hl with | [_, _], _ => rfl
  · exact fun ds e => by cases (show (none : Option (List VV)) = some ds from e)
  · exact fun kn e => by cases (show (none : Option Str) = some kn from e)
theorem r17 (X : K.In h) (G : h.Ns mainGlobals mg) (c : Says w0 h0 K) : RowOk (gm P w K mg base) T F 17 "plus" 2 := by
  obtain ⟨fd, D⟩ := c.t.d.def_ 17 (d := d17) rfl
  refine ⟨_, _, _, _, _, _, fd, p17, n17, b17, 60, D, s17, rfl, rfl, m17, He.glo_ok X G (c.t.d.fact 17 (f := .glo "plus") rfl), ?_, ?_, ?_⟩
  · exact fun _ => FunD.bindsN (ps := p17) D fun _ _ _ _ _ _ us hl => match us, hl with | [_, _], _ => rfl
  · exact fun ds e => by cases (show (none : Option (List VV)) = some ds from e)
  · exact fun kn e => by cases (show (none : Option Str) = some kn from e)
theorem r18 (X : K.In h) (G : h.Ns mainGlobals mg) (c : Says w0 h0 K) : RowOk (gm P w K mg base) T F 18 "minus" 2 := by
  obtain ⟨fd, D⟩ := c.t.d.def_ 18 (d := d18) rfl
  refine ⟨_, _, _, _, _, _, fd, p18, n18, b18, 60, D, s18, rfl, rfl, m18, He.glo_ok X G (c.t.d.fact 18 (f := .glo "minus") rfl), ?_, ?_, ?_⟩
  · exact fun _ => FunD.bindsN (ps := p18) D fun _ _ _ _ _ _ us hl => match us, hl with | [_, _], _ => rfl
  · exact fun ds e => by cases (show (none : Option (List VV)) = some ds from e)
  · exact fun kn e => by cases (show (none : Option Str) = some kn from e)
theorem r19 (X : K.In h) (G : h.Ns mainGlobals mg) (c : Says w0 h0 K) : RowOk (gm P w K mg base) T F 19 "times" 3 := by
  obtain ⟨fd, D⟩ := c.t.d.def_ 19 (d := d19) rfl
  refine ⟨_, _, _, _, _, _, fd, p19, n19, b19, 60, D, s19, rfl, rfl, m19, He.glo_ok X G (c.t.d.fact 19 (f := .glo "times") rfl), ?_, ?_, ?_⟩
  · exact fun e => by cases e
  · intro ds e
    cases e
    obtain ⟨dus, r, b⟩ := FunD.binds0 (ps := p19) D 2 (by intro z; cases z) rfl fun D doc pm an cdv ct us ks l1 l2 => match us, ks, l1, l2 with | [_, _], [_], _, _ => ⟨_, _, _, _, _, _, rfl, rfl, rfl⟩
    exact ⟨_, dus, b, r, fun _ _ _ => .cons (.int 0) .nil⟩
  · intro kn e n hn
    cases e
    cases Nat.succ.inj hn
    obtain ⟨mv, b⟩ := FunD.kbinds0 (ps := p19) D 2 ["scale"] [] (fun vs _ zs => vs ++ zs) (by intro z; cases z) (fun q hq => by cases hq) (fun r1 _ r2 => r1.append r2) fun D doc pm an cdv ct us mv ws l1 l2 l3 => match us, mv, ws, l1, l2, l3 with | [_, _], [], [_], _, _, _ => rfl
    exact b
theorem r20 (X : K.In h) (G : h.Ns mainGlobals mg) (c : Says w0 h0 K) : RowOk (gm P w K mg base) T F 20 "over" 3 := by
  obtain ⟨fd, D⟩ := c.t.d.def_ 20 (d := d20) rfl
  refine ⟨_, _, _, _, _, _, fd, p20, n20, b20, 60, D, s20, rfl, rfl, m20, He.glo_ok X G (c.t.d.fact 20 (f := .glo "over") rfl), ?_, ?_, ?_⟩
  · exact fun e => by cases e
  · intro ds e
    cases e
    obtain ⟨dus, r, b⟩ := FunD.binds0 (ps := p20) D 2 (by intro z; cases z) rfl fun D doc pm an cdv ct us ks l1 l2 => match us, ks, l1, l2 with | [_, _], [_], _, _ => ⟨_, _, _, _, _, _, rfl, rfl, rfl⟩
    exact ⟨_, dus, b, r, fun _ _ _ => .cons (.int 0) .nil⟩
  · intro kn e n hn
    cases e
    cases Nat.succ.inj hn
    obtain ⟨mv, b⟩ := FunD.kbinds0 (ps := p20) D 2 ["scale"] [] (fun vs _ zs => vs ++ zs) (by intro z; cases z) (fun q hq => by cases hq) (fun r1 _ r2 => r1.append r2) fun D doc pm an cdv ct us mv ws l1 l2 l3 => match us, mv, ws, l1, l2, l3 with | [_, _], [], [_], _, _, _ => rfl
    exact b
theorem r21 (X : K.In h) (G : h.Ns mainGlobals mg) (c : Says w0 h0 K) : RowOk (gm P w K mg base) T F 21 "power" 3 := by
  obtain ⟨fd, D⟩ := c.t.d.def_ 21 (d := d21) rfl
  refine ⟨_, _, _, _, _, _, fd, p21, n21, b21, 60, D, s21, rfl, rfl, m21, He.glo_ok X G (c.t.d.fact 21 (f := .glo "power") rfl), ?_, ?_, ?_⟩
  · exact fun e => by cases e
  · intro ds e
    cases e
    obtain ⟨dus, r, b⟩ := FunD.binds0 (ps := p21) D 2 (by intro z; cases z) rfl fun D doc pm an cdv ct us ks l1 l2 => match us, ks, l1, l2 with | [_, _], [_], _, _ => ⟨_, _, _, _, _, _, rfl, rfl, rfl⟩
    exact ⟨_, dus, b, r, fun _ _ _ => .cons (.int 0) .nil⟩
  · intro kn e n hn
    cases e
    cases Nat.succ.inj hn
    obtain ⟨mv, b⟩ := FunD.kbinds0 (ps := p21) D 2 ["scale"] [] (fun vs _ zs => vs ++ zs) (by intro z; cases z) (fun q hq => by cases hq) (fun r1 _ r2 => r1.append r2) fun D doc pm an cdv ct us mv ws l1 l2 l3 => match us, mv, ws, l1, l2, l3 with | [_, _], [], [_], _, _, _ => rfl
    exact b
theorem r22 (X : K.In h) (G : h.Ns mainGlobals mg) (c : Says w0 h0 K) : RowOk (gm P w K mg base) T F 22 "root" 2 := by
  obtain ⟨fd, D⟩ := c.t.d.def_ 22 (d := d22) rfl
  refine ⟨_, _, _, _, _, _, fd, p22, n22, b22, 60, D, s22, rfl, rfl, m22, He.glo_ok X G (c.t.d.fact 22 (f := .glo "root") rfl), ?_, ?_, ?_⟩
  · exact fun e => by cases e
  · intro ds e
    cases e
    obtain ⟨dus, r, b⟩ := FunD.binds0 (ps := p22) D 1 (by intro z; cases z) rfl fun D doc pm an cdv ct us ks l1 l2 => match us, ks, l1, l2 with | [_], [_], _, _ => ⟨_, _, _, _, _, _, rfl, rfl, rfl⟩
    exact ⟨_, dus, b, r, fun _ _ _ => .cons (.int 0) .nil⟩
  · intro kn e n hn
    cases e
    cases Nat.succ.inj hn
    obtain ⟨mv, b⟩ := FunD.kbinds0 (ps := p22) D 1 ["scale"] [] (fun vs _ zs => vs ++ zs) (by intro z; cases z) (fun q hq => by cases hq) (fun r1 _ r2 => r1.append r2) fun D doc pm an cdv ct us mv ws l1 l2 l3 => match us, mv, ws, l1, l2, l3 with | [_], [], [_], _, _, _ => rfl
    exact b
theorem r23 (X : K.In h) (G : h.Ns mainGlobals mg) (c : Says w0 h0 K) : RowOk (gm P w K mg base) T F 23 "compare" 2 := by
  obtain ⟨fd, D⟩ := c.t.d.def_ 23 (d := d23) rfl
  refine ⟨_, _, _, _, _, _, fd, p23, n23, b23, 60, D, s23, rfl, rfl, m23, He.glo_ok X G (c.t.d.fact 23 (f := .glo "compare") rfl), ?_, ?_, ?_⟩
  · exact fun _ => FunD.bindsN (ps := p23) D fun _ _ _ _ _ _ us hl => match us, hl with | [_, _], _ => rfl
  · exact fun ds e => by cases (show (none : Option (List VV)) = some ds from e)
  · exact fun kn e => by cases (show (none : Option Str) = some kn from e)
theorem r24 (X : K.In h) (G : h.Ns mainGlobals mg) (c : Says w0 h0 K) : RowOk (gm P w K mg base) T F 24 "_law_cell_at" 2 := by
  obtain ⟨fd, D⟩ := c.t.d.def_ 24 (d := d24) rfl
  refine ⟨_, _, _, _, _, _, fd, p24, n24, b24, 60, D, s24, rfl, rfl, m24, He.glo_ok X G (c.t.d.fact 24 (f := .glo "_law_cell_at") rfl), ?_, ?_, ?_⟩
  · exact fun _ => FunD.bindsN (ps := p24) D fun _ _ _ _ _ _ us hl => match us, hl with | [_, _], _ => rfl
  · exact fun ds e => by cases (show (none : Option (List VV)) = some ds from e)
  · exact fun kn e => by cases (show (none : Option Str) = some kn from e)
theorem r25 (X : K.In h) (G : h.Ns mainGlobals mg) (c : Says w0 h0 K) : RowOk (gm P w K mg base) T F 25 "_law_mixed" 3 := by
  obtain ⟨fd, D⟩ := c.t.d.def_ 25 (d := d25) rfl
  refine ⟨_, _, _, _, _, _, fd, p25, n25, b25, 60, D, s25, rfl, rfl, m25, He.glo_ok X G (c.t.d.fact 25 (f := .glo "_law_mixed") rfl), ?_, ?_, ?_⟩
  · exact fun _ => FunD.bindsN (ps := p25) D fun _ _ _ _ _ _ us hl => match us, hl with | [_, _, _], _ => rfl
  · exact fun ds e => by cases (show (none : Option (List VV)) = some ds from e)
  · exact fun kn e => by cases (show (none : Option Str) = some kn from e)
theorem r26 (X : K.In h) (G : h.Ns mainGlobals mg) (c : Says w0 h0 K) : RowOk (gm P w K mg base) T F 26 "_law_draw" 3 := by
  obtain ⟨fd, D⟩ := c.t.d.def_ 26 (d := d26) rfl
  refine ⟨_, _, _, _, _, _, fd, p26, n26, b26, 60, D, s26, rfl, rfl, m26, He.glo_ok X G (c.t.d.fact 26 (f := .glo "_law_draw") rfl), ?_, ?_, ?_⟩
  · exact fun _ => FunD.bindsN (ps := p26) D fun _ _ _ _ _ _ us hl => match us, hl with | [_, _, _], _ => rfl
  · exact fun ds e => by cases (show (none : Option (List VV)) = some ds from e)
  · exact fun kn e => by cases (show (none : Option Str) = some kn from e)
theorem r27 (X : K.In h) (G : h.Ns mainGlobals mg) (c : Says w0 h0 K) : RowOk (gm P w K mg base) T F 27 "law" 1 := by
  obtain ⟨fd, D⟩ := c.t.d.def_ 27 (d := d27) rfl
  refine ⟨_, _, _, _, _, _, fd, p27, n27, b27, 60, D, s27, rfl, rfl, m27, He.glo_ok X G (c.t.d.fact 27 (f := .glo "law") rfl), ?_, ?_, ?_⟩
  · exact fun _ => FunD.bindsN (ps := p27) D fun _ _ _ _ _ _ us hl => match us, hl with | [_], _ => rfl
  · exact fun ds e => by cases (show (none : Option (List VV)) = some ds from e)
  · exact fun kn e => by cases (show (none : Option Str) = some kn from e)
theorem allRows (X : K.In h) (G : h.Ns mainGlobals mg) (c : Says w0 h0 K) : ∀ f x np, T.fns[f]? = some (x, np) → RowOk (gm P w K mg base) T F f x np := by
  intro f x np e
  match f, e with
  | 0, e => cases e; exact r0 X G c
  | 1, e => cases e; exact r1 X G c
  | 2, e => cases e; exact r2 X G c
  | 3, e => cases e; exact r3 X G c
  | 4, e => cases e; exact r4 X G c
  | 5, e => cases e; exact r5 X G c
  | 6, e => cases e; exact r6 X G c
  | 7, e => cases e; exact r7 X G c
  | 8, e => cases e; exact r8 X G c
  | 9, e => cases e; exact r9 X G c
  | 10, e => cases e; exact r10 X G c
  | 11, e => cases e; exact r11 X G c
  | 12, e => cases e; exact r12 X G c
  | 13, e => cases e; exact r13 X G c
  | 14, e => cases e; exact r14 X G c
  | 15, e => cases e; exact r15 X G c
  | 16, e => cases e; exact r16 X G c
  | 17, e => cases e; exact r17 X G c
  | 18, e => cases e; exact r18 X G c
  | 19, e => cases e; exact r19 X G c
  | 20, e => cases e; exact r20 X G c
  | 21, e => cases e; exact r21 X G c
  | 22, e => cases e; exact r22 X G c
  | 23, e => cases e; exact r23 X G c
  | 24, e => cases e; exact r24 X G c
  | 25, e => cases e; exact r25 X G c
  | 26, e => cases e; exact r26 X G c
  | 27, e => cases e; exact r27 X G c
  | n + 28, e => exact absurd e (by simp [T])
theorem gloOk (X : K.In h) (G : h.Ns mainGlobals mg) (c : Says w0 h0 K) : GloOk (gm P w K mg base) T := by
  refine ⟨fun g x v e => ?_, fun x hx => ?_⟩
  · match g, e with
    | 0, e =>
      cases e
      obtain ⟨t, ht⟩ := He.int_ok X G (c.t.d.fact 28 (f := .int "FIGURES" 100000000000000000000000000000000000000000000000000000000000000000000000000000000000000000000000000000000000000000000000000000000000000000000000000000000000000000000000000000000000000000000000000000000000000000000000000000000000000000000000000000000000000000000000000000000000000000000000000000000000) rfl)
      exact ⟨_, .int 100000000000000000000000000000000000000000000000000000000000000000000000000000000000000000000000000000000000000000000000000000000000000000000000000000000000000000000000000000000000000000000000000000000000000000000000000000000000000000000000000000000000000000000000000000000000000000000000000000000000, ht, ⟨t, rfl⟩, fun _ _ _ => .int _⟩
    | 1, e =>
      cases e
      obtain ⟨t, ht⟩ := He.int_ok X G (c.t.d.fact 29 (f := .int "SCALE" 60) rfl)
      exact ⟨_, .int 60, ht, ⟨t, rfl⟩, fun _ _ _ => .int _⟩
    | 2, e =>
      cases e
      obtain ⟨t, ht⟩ := He.int_ok X G (c.t.d.fact 30 (f := .int "WORK" 20) rfl)
      exact ⟨_, .int 20, ht, ⟨t, rfl⟩, fun _ _ _ => .int _⟩
    | n + 3, e => exact absurd e (by simp [T])
  · obtain ⟨y, hy, e⟩ := List.any_eq_true.mp hx
    have e := seqS_eq e
    subst e
    have hy : _ ∈ (["abs", "bool", "divmod", "int", "isinstance", "len", "max", "min", "range", "tuple"] : List Str) := hy
    simp only [List.mem_cons, List.mem_nil_iff, or_false] at hy
    rcases hy with rfl | rfl | rfl | rfl | rfl | rfl | rfl | rfl | rfl | rfl
    · exact He.free_ok X G (c.t.d.fact 31 (f := .free "abs") rfl)
    · exact He.free_ok X G (c.t.d.fact 32 (f := .free "bool") rfl)
    · exact He.free_ok X G (c.t.d.fact 33 (f := .free "divmod") rfl)
    · exact He.free_ok X G (c.t.d.fact 34 (f := .free "int") rfl)
    · exact He.free_ok X G (c.t.d.fact 35 (f := .free "isinstance") rfl)
    · exact He.free_ok X G (c.t.d.fact 36 (f := .free "len") rfl)
    · exact He.free_ok X G (c.t.d.fact 37 (f := .free "max") rfl)
    · exact He.free_ok X G (c.t.d.fact 38 (f := .free "min") rfl)
    · exact He.free_ok X G (c.t.d.fact 39 (f := .free "range") rfl)
    · exact He.free_ok X G (c.t.d.fact 40 (f := .free "tuple") rfl)
end
end VI.K39

end
section
set_option maxHeartbeats 0
namespace VI.K39
open PySem PySem.Spec PyProof.Rows L2
def names : List Str := (["DeskError", "NoNumber", "NoScale", "NoDivisor", "NoExponent", "NoRoot", "TooLong", "FIGURES", "SCALE", "WORK", "is_whole", "is_number", "need_numbers", "need_scale", "raise_to", "ten", "cut_off", "fitted", "at_scale", "signed", "sum_of", "product", "quotient", "raised", "square", "rooted", "order", "plus", "minus", "times"] : List Str) ++ (["over", "power", "root", "compare", "_law_cell_at", "_law_mixed", "_law_draw"] : List Str)
abbrev R : PySem.W.OpenRow := PySem.W.OpenLaw.row PySem.Challenge.rw_scaledesk_k39_whole_laws_of_numbers
abbrev hk : PySem.W.Hook := He.hookX 5 fa fn [] [] noLst
def ob (s : PySem.W.SharedT) : He.AlX := He.obsX 5 fa fn [] [] noLst (HandSHeadRun.getT s)
theorem ob_eq (s : PySem.W.SharedT) : ob s = hk.obs s.abs := He.obsX_eq (HandSHeadRun.getT_eq s)
theorem runs (w : World) : HandSHeadRun.RunEq R (PySem.W.view R.prog [40]) hk ob 20000 names w := by
  intro os
  kernel_rfl
theorem lawFn {P : Program} {w w0 : World} {K : PySem.W.Frag} {mg : Str → Option Value} {h h0 base : Heap} (X : K.In h) (G : h.Ns mainGlobals mg) (c : Says w0 h0 K) :
    ∃ fd : FuncData, (∀ (s : Shared) (v : Value), BindsTo s fd ⟨[v], []⟩ [("_law_script", v)]) ∧ ∀ base, FnOk P w K mg base CXA 10 (He.fAd K ("law", none)) fd ["_law_script"] (spV (gm P w K mg base) 1 (run (Gof T) F 10 27)) := by
  obtain ⟨fd, D⟩ := c.t.d.def_ 27 (d := d27) rfl
  have b := FunD.bindsA (ps := p27) D fun _ _ _ _ _ _ us hl => match us, hl with | [_], _ => rfl
  exact ⟨fd, fun s v => b s [v] rfl, fun base => toA (fn_ok (Γ := gm P w K mg base) (T := T) (F := F) (f := 27) (gloOk X G c) D s27 rfl rfl m27 (cal_ok (gloOk X G c) (allRows X G c) _)).1⟩
open PySem.W PySem.Calls in
theorem holds (law_ok : ∀ ns : List Int, ns.length ≤ 63 → ∃ h1, run (Gof T) F 10 27 [.ref 0] (hv0 ns) = .ok (.bl true) h1) : PySem.Challenge.rw_scaledesk_k39_whole_laws_of_numbers.Holds := by
  w_on; o_law
  refine HandSHeadRun.head_any (r := OpenLaw.row PySem.Challenge.rw_scaledesk_k39_whole_laws_of_numbers) (q := view (OpenLaw.row PySem.Challenge.rw_scaledesk_k39_whole_laws_of_numbers).prog [40]) (H := hk) (ob := ob) (M := 20000) (loose := names) (d := HandSHeadRun.topDef (OpenLaw.row PySem.Challenge.rw_scaledesk_k39_whole_laws_of_numbers).prog 40) (kwd := []) ob_eq
    (by kernel_rfl) (fun s => by kernel_rfl) runs (by kernel_rfl) (by kernel_rfl) (by kernel_rfl) (by rfl) (by first | assumption | decide +kernel) (by decide +kernel) ⟨rfl, rfl, rfl, rfl, rfl, by decide +kernel⟩ ?hw ?hc
  case hw => w_witness2
  case hc =>
    refine L2.walk_ofE (l := PySem.Challenge.rw_scaledesk_k39_whole_laws_of_numbers) (n := 63) (k := 10) (x := "_law_script") (CX := CXA) rfl (by decide) (by kernel_rfl) ⟨rfl, by decide, by decide⟩ ?F cxa_no
    intro w mg fa h Y G hmg0
    obtain ⟨K, KX, c⟩ := Y
    have hmg : mg ("law" : PySem.Str) = some (.ref fa) := by
      have e : (HandSHeadRun.topDef (OpenLaw.row PySem.Challenge.rw_scaledesk_k39_whole_laws_of_numbers).prog 40).name = ("law" : PySem.Str) := by kernel_rfl
      rw [← e]
      exact hmg0
    have e := hmg.symm.trans (He.glo_ok KX G (c.t.d.fact 27 (f := .glo "law") rfl))
    cases e
    obtain ⟨fd, hb, hF⟩ := lawFn (P := (PySem.Challenge.rw_scaledesk_k39_whole_laws_of_numbers).prog) (w := w) (base := h) KX G c
    exact ⟨K, fd, fun vs H Q E => ∀ base, spV (gm (PySem.Challenge.rw_scaledesk_k39_whole_laws_of_numbers).prog w K mg base) 1 (run (Gof T) F 10 27) vs H Q E, KX, hb, fun H a ns hl hO hS base => law_sp c.more hO hS (law_ok ns hl), fun base _ _ => (hF base).imp fun vs H Q E q => q base⟩
end VI.K39

end
theorem PySem.Challenge.cw_scaledesk_k39_whole_laws_of_numbers_holds : PySem.Challenge.rw_scaledesk_k39_whole_laws_of_numbers.Holds := by
  exact VI.K39.holds VI.K39.law_ok
