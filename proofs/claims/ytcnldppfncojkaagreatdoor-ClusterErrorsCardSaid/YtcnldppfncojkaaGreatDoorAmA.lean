/- The abstract machine: a deterministic reading of a translated Go program, over a heap of named objects. Definitions alone. -/
import Derived.Orders
import Derived.Laws.CopyRow
import Derived.Laws.Cells
import Derived.IntWalk
import Derived.Laws.BytesString
namespace Go.AM

/-! ### tries -/
inductive Tr (α : Type) where
  | tip (l : List (Nat × α))
  | bin (a b : Tr α)
section
variable {α : Type}
noncomputable def lget (l : List (Nat × α)) (k : Nat) : Option α :=
  List.rec (motive := fun _ => Option α) none (fun x _ ih => Bool.rec (motive := fun _ => Option α) ih (some x.2) (Nat.beq x.1 k)) l
theorem lget_nil (k : Nat) : lget ([] : List (Nat × α)) k = none := rfl
theorem lget_cons (j : Nat) (v : α) (t : List (Nat × α)) (k : Nat) : lget ((j, v) :: t) k = cond (Nat.beq j k) (some v) (lget t k) := by
  show Bool.rec (motive := fun _ => Option α) (lget t k) (some v) (Nat.beq j k) = _
  cases Nat.beq j k <;> rfl
def lset : List (Nat × α) → Nat → α → List (Nat × α)
  | [], k, v => [(k, v)]
  | (j, u) :: t, k, v => cond (Nat.beq j k) ((k, v) :: t) ((j, u) :: lset t k v)
def lrem : List (Nat × α) → Nat → List (Nat × α)
  | [], _ => []
  | (j, u) :: t, k => cond (Nat.beq j k) (lrem t k) ((j, u) :: lrem t k)
noncomputable def Tr.getP (t : Tr α) : Nat → Nat → Option α :=
  Tr.rec (motive := fun _ => Nat → Nat → Option α) (fun l _ k => lget l k) (fun _ _ fa fb p k => Bool.rec (motive := fun _ => Option α) (fb (Nat.div p 2) k) (fa (Nat.div p 2) k) (Nat.beq (Nat.mod p 2) 0)) t
theorem Tr.getP_tip (l : List (Nat × α)) (p k : Nat) : (Tr.tip l).getP p k = lget l k := rfl
theorem Tr.getP_bin (a b : Tr α) (p k : Nat) : (Tr.bin a b).getP p k = cond (Nat.beq (Nat.mod p 2) 0) (a.getP (Nat.div p 2) k) (b.getP (Nat.div p 2) k) := by
  show Bool.rec (motive := fun _ => Option α) (b.getP (Nat.div p 2) k) (a.getP (Nat.div p 2) k) (Nat.beq (Nat.mod p 2) 0) = _
  cases Nat.beq (Nat.mod p 2) 0 <;> rfl
noncomputable def Tr.get (t : Tr α) (k : Nat) : Option α := t.getP k k
def Tr.mk1 : Nat → Nat → Nat → α → Tr α
  | 0, _, k, v => .tip [(k, v)]
  | d + 1, p, k, v => cond (Nat.beq (Nat.mod p 2) 0) (.bin (mk1 d (Nat.div p 2) k v) (.tip [])) (.bin (.tip []) (mk1 d (Nat.div p 2) k v))
noncomputable def Tr.setP (t : Tr α) : Nat → Nat → Nat → α → Tr α :=
  Tr.rec (motive := fun _ => Nat → Nat → Nat → α → Tr α)
    (fun l d p k v => List.casesOn (motive := fun _ => Tr α) l (mk1 d p k v) (fun x l => .tip (lset (x :: l) k v)))
    (fun a b fa fb d p k v => Bool.rec (motive := fun _ => Tr α) (.bin a (fb (Nat.pred d) (Nat.div p 2) k v)) (.bin (fa (Nat.pred d) (Nat.div p 2) k v) b) (Nat.beq (Nat.mod p 2) 0)) t
theorem Tr.setP_nil (d p k : Nat) (v : α) : (Tr.tip []).setP d p k v = mk1 d p k v := rfl
theorem Tr.setP_cons (x : Nat × α) (l : List (Nat × α)) (d p k : Nat) (v : α) : (Tr.tip (x :: l)).setP d p k v = .tip (lset (x :: l) k v) := rfl
theorem Tr.setP_bin (a b : Tr α) (d p k : Nat) (v : α) : (Tr.bin a b).setP d p k v = cond (Nat.beq (Nat.mod p 2) 0) (.bin (a.setP (Nat.pred d) (Nat.div p 2) k v) b) (.bin a (b.setP (Nat.pred d) (Nat.div p 2) k v)) := by
  show Bool.rec (motive := fun _ => Tr α) (.bin a (b.setP (Nat.pred d) (Nat.div p 2) k v)) (.bin (a.setP (Nat.pred d) (Nat.div p 2) k v) b) (Nat.beq (Nat.mod p 2) 0) = _
  cases Nat.beq (Nat.mod p 2) 0 <;> rfl
noncomputable def Tr.set (t : Tr α) (k : Nat) (v : α) : Tr α := t.setP 10 k k v
/-- the same, of a trie that is less deep -/
noncomputable def Tr.put (t : Tr α) (k : Nat) (v : α) : Tr α := t.setP 6 k k v
def Tr.remP : Tr α → Nat → Nat → Tr α
  | .tip l, _, k => .tip (lrem l k)
  | .bin a b, p, k => cond (Nat.beq (Nat.mod p 2) 0) (.bin (a.remP (Nat.div p 2) k) b) (.bin a (b.remP (Nat.div p 2) k))
def Tr.rem (t : Tr α) (k : Nat) : Tr α := t.remP k k

theorem beq_ne {a b : Nat} (h : ¬ a = b) : Nat.beq a b = false := by
  cases hb : Nat.beq a b with
  | false => rfl
  | true => exact absurd (Nat.eq_of_beq_eq_true hb) h
theorem beq_same (a : Nat) : Nat.beq a a = true := Nat.beq_refl a
theorem lget_lset (l : List (Nat × α)) (k j : Nat) (v : α) : lget (lset l k v) j = if k = j then some v else lget l j := by
  induction l with
  | nil =>
    by_cases h : k = j
    · subst h; simp [lset, lget_cons, lget_nil]
    · simp [lset, lget_cons, lget_nil, h, beq_ne h]
  | cons x t ih =>
    obtain ⟨i, u⟩ := x
    by_cases h : i = k
    · subst h
      by_cases h2 : i = j
      · subst h2; simp [lset, lget_cons]
      · simp [lset, lget_cons, h2, beq_ne h2]
    · have hb : Nat.beq i k = false := beq_ne h
      simp only [lset, hb, cond_false, lget_cons, ih]
      by_cases h2 : i = j
      · subst h2
        have : ¬ k = i := fun e => h e.symm
        simp [this]
      · have hb2 : Nat.beq i j = false := beq_ne h2
        simp [hb2]
theorem lget_lrem (l : List (Nat × α)) (k j : Nat) : lget (lrem l k) j = if k = j then none else lget l j := by
  induction l with
  | nil => simp [lrem, lget_nil]
  | cons x t ih =>
    obtain ⟨i, u⟩ := x
    by_cases h : i = k
    · subst h
      have hb : Nat.beq i i = true := beq_same i
      simp only [lrem, hb, cond_true, ih, lget_cons]
      by_cases h2 : i = j
      · simp [h2]
      · have hb2 : Nat.beq i j = false := beq_ne h2
        simp [hb2, h2]
    · have hb : Nat.beq i k = false := beq_ne h
      simp only [lrem, hb, cond_false, lget_cons, ih]
      by_cases h2 : i = j
      · subst h2
        have : ¬ k = i := fun e => h e.symm
        simp [this]
      · have hb2 : Nat.beq i j = false := beq_ne h2
        simp [hb2]
theorem Tr.getP_mk1 (d : Nat) : ∀ (p q k j : Nat) (v : α), (k = j → p = q) → (mk1 d p k v).getP q j = if k = j then some v else none := by
  induction d with
  | zero =>
    intro p q k j v _
    by_cases h : k = j
    · subst h; simp [mk1, getP_tip, lget_cons, lget_nil]
    · simp [mk1, getP_tip, lget_cons, lget_nil, h, beq_ne h]
  | succ d ih =>
    intro p q k j v hpq
    simp only [mk1]
    by_cases hp : Nat.mod p 2 = 0
    · have hb : Nat.beq (Nat.mod p 2) 0 = true := by rw [hp]; rfl
      simp only [hb, cond_true, getP_bin]
      by_cases hq : Nat.mod q 2 = 0
      · have hb2 : Nat.beq (Nat.mod q 2) 0 = true := by rw [hq]; rfl
        simp only [hb2, cond_true]
        exact ih _ _ _ _ _ (fun e => by rw [hpq e])
      · have hb2 : Nat.beq (Nat.mod q 2) 0 = false := beq_ne hq
        have hkj : ¬ k = j := fun e => hq (by rw [← hpq e]; exact hp)
        simp [hb2, getP_tip, lget_nil, hkj]
    · have hb : Nat.beq (Nat.mod p 2) 0 = false := beq_ne hp
      simp only [hb, cond_false, getP_bin]
      by_cases hq : Nat.mod q 2 = 0
      · have hb2 : Nat.beq (Nat.mod q 2) 0 = true := by rw [hq]; rfl
        have hkj : ¬ k = j := fun e => hp (by rw [hpq e]; exact hq)
        simp [hb2, getP_tip, lget_nil, hkj]
      · have hb2 : Nat.beq (Nat.mod q 2) 0 = false := beq_ne hq
        simp only [hb2, cond_false]
        exact ih _ _ _ _ _ (fun e => by rw [hpq e])
theorem Tr.getP_setP (t : Tr α) : ∀ (d p q k j : Nat) (v : α), (k = j → p = q) → (t.setP d p k v).getP q j = if k = j then some v else t.getP q j := by
  induction t with
  | tip l =>
    intro d p q k j v hpq
    cases l with
    | nil => simpa [setP_nil, getP_tip, lget_nil] using getP_mk1 d p q k j v hpq
    | cons x l => simp only [setP_cons, getP_tip]; exact lget_lset _ _ _ _
  | bin a b iha ihb =>
    intro d p q k j v hpq
    simp only [setP_bin]
    by_cases hp : Nat.mod p 2 = 0
    · have hb : Nat.beq (Nat.mod p 2) 0 = true := by rw [hp]; rfl
      simp only [hb, cond_true, getP_bin]
      by_cases hq : Nat.mod q 2 = 0
      · have hb2 : Nat.beq (Nat.mod q 2) 0 = true := by rw [hq]; rfl
        simp only [hb2, cond_true]
        exact iha _ _ _ _ _ _ (fun e => by rw [hpq e])
      · have hb2 : Nat.beq (Nat.mod q 2) 0 = false := beq_ne hq
        have hkj : ¬ k = j := fun e => hq (by rw [← hpq e]; exact hp)
        simp [hb2, hkj]
    · have hb : Nat.beq (Nat.mod p 2) 0 = false := beq_ne hp
      simp only [hb, cond_false, getP_bin]
      by_cases hq : Nat.mod q 2 = 0
      · have hb2 : Nat.beq (Nat.mod q 2) 0 = true := by rw [hq]; rfl
        have hkj : ¬ k = j := fun e => hp (by rw [hpq e]; exact hq)
        simp [hb2, hkj]
      · have hb2 : Nat.beq (Nat.mod q 2) 0 = false := beq_ne hq
        simp only [hb2, cond_false]
        exact ihb _ _ _ _ _ _ (fun e => by rw [hpq e])
theorem Tr.getP_remP (t : Tr α) : ∀ (p q k j : Nat), (k = j → p = q) → (t.remP p k).getP q j = if k = j then none else t.getP q j := by
  induction t with
  | tip l => intro p q k j _; simp only [remP, getP_tip]; exact lget_lrem _ _ _
  | bin a b iha ihb =>
    intro p q k j hpq
    simp only [remP]
    by_cases hp : Nat.mod p 2 = 0
    · have hb : Nat.beq (Nat.mod p 2) 0 = true := by rw [hp]; rfl
      simp only [hb, cond_true, getP_bin]
      by_cases hq : Nat.mod q 2 = 0
      · have hb2 : Nat.beq (Nat.mod q 2) 0 = true := by rw [hq]; rfl
        simp only [hb2, cond_true]
        exact iha _ _ _ _ (fun e => by rw [hpq e])
      · have hb2 : Nat.beq (Nat.mod q 2) 0 = false := beq_ne hq
        have hkj : ¬ k = j := fun e => hq (by rw [← hpq e]; exact hp)
        simp [hb2, hkj]
    · have hb : Nat.beq (Nat.mod p 2) 0 = false := beq_ne hp
      simp only [hb, cond_false, getP_bin]
      by_cases hq : Nat.mod q 2 = 0
      · have hb2 : Nat.beq (Nat.mod q 2) 0 = true := by rw [hq]; rfl
        have hkj : ¬ k = j := fun e => hp (by rw [hpq e]; exact hq)
        simp [hb2, hkj]
      · have hb2 : Nat.beq (Nat.mod q 2) 0 = false := beq_ne hq
        simp only [hb2, cond_false]
        exact ihb _ _ _ _ (fun e => by rw [hpq e])
theorem Tr.get_set (t : Tr α) (k j : Nat) (v : α) : (t.set k v).get j = if k = j then some v else t.get j := getP_setP t 10 k j k j v (fun e => e)
theorem Tr.get_put (t : Tr α) (k j : Nat) (v : α) : (t.put k v).get j = if k = j then some v else t.get j := getP_setP t 6 k j k j v (fun e => e)
theorem Tr.get_rem (t : Tr α) (k j : Nat) : (t.rem k).get j = if k = j then none else t.get j := getP_remP t k j k j (fun e => e)
theorem Tr.get_set_same (t : Tr α) (k : Nat) (v : α) : (t.set k v).get k = some v := by simp [Tr.get_set]
theorem Tr.get_set_ne (t : Tr α) {k j : Nat} (v : α) (h : k ≠ j) : (t.set k v).get j = t.get j := by simp [Tr.get_set, h]
theorem Tr.get_empty (k : Nat) : (Tr.tip [] : Tr α).get k = none := rfl
end

/-! ### objects, heaps -/
/-- what a row of cells is: a variable; a row that is just so long; a row that may have room behind it, of elements of that many cells -/
inductive Kind where
  | var
  | row
  | grown (esz : Nat)
structure MEnt where
  key : Value
  val : Value
  born : Nat
inductive AObj where
  | cells (c : List Value) (k : Kind)
  | map (es : List MEnt) (clock : Nat)
  | miter (m : Option Nat) (since : Nat) (seen : List Nat) (stepped : Nat)
  | siter (s : ByteArray) (pos : Nat)
  | opq (k : Nat)
structure Heap where
  next : Nat
  tab : Tr AObj
abbrev Opd := Operand
noncomputable def Heap.get (h : Heap) (n : Nat) : Option AObj := h.tab.get n
noncomputable def Heap.set (h : Heap) (n : Nat) (o : AObj) : Heap := { next := h.next, tab := h.tab.set n o }
def Heap.rem (h : Heap) (n : Nat) : Heap := { next := h.next, tab := h.tab.rem n }
noncomputable def Heap.new (h : Heap) (o : AObj) : Heap := { next := Nat.succ h.next, tab := h.tab.set h.next o }
noncomputable def Heap.putO (h : Heap) (nm : Nat) : Option AObj → Heap
  | none => h
  | some o => h.set nm o

/-! ### numbers, quickly -/
def eqI : Int → Int → Bool
  | .ofNat a, .ofNat b => Nat.beq a b
  | .negSucc a, .negSucc b => Nat.beq a b
  | _, _ => false
def ltI : Int → Int → Bool
  | .ofNat a, .ofNat b => Nat.blt a b
  | .negSucc a, .negSucc b => Nat.blt b a
  | .negSucc _, .ofNat _ => true
  | .ofNat _, .negSucc _ => false
def eqK : IntKind → IntKind → Bool
  | .i64, .i64 | .u8, .u8 | .u64, .u64 | .i32, .i32 | .u32, .u32 | .i8, .i8 | .i16, .i16 | .u16, .u16 => true
  | _, _ => false
/-- all numbers from 0 on below it are of the kind -/
def topK : IntKind → Nat
  | .i64 => 9223372036854775808
  | .u64 => 18446744073709551616
  | .i32 => 2147483648
  | .u32 => 4294967296
  | .u8 => 256
  | .i8 => 128
  | .i16 => 32768
  | .u16 => 65536
def wrapF (k : IntKind) (n : Int) : Int :=
  match n with
  | .ofNat m => match Nat.blt m (topK k) with
    | true => .ofNat m
    | false => k.wrap (.ofNat m)
  | .negSucc m => match k.signed && Nat.blt m (topK k) with
    | true => .negSucc m
    | false => k.wrap (.negSucc m)

/-! ### values -/
def vcells : Value → List Value
  | .agg cs => cs.toList
  | v => [v]
def isOne : Value → Bool
  | .agg _ => false
  | .tuple _ => false
  | _ => true
/-- each is the value of one cell -/
noncomputable def oneL (l : List Value) : Bool := List.rec (motive := fun _ => Bool) true (fun v _ ih => isOne v && ih) l
noncomputable def takeN (n : Nat) : List Value → Option (List Value) :=
  Nat.rec (motive := fun _ => List Value → Option (List Value)) (fun _ => some [])
    (fun _ ih l => List.casesOn (motive := fun _ => Option (List Value)) l none (fun x l => match ih l with
      | some r => some (x :: r)
      | none => none)) n
noncomputable def subO (off n : Nat) : List Value → Option (List Value) :=
  Nat.rec (motive := fun _ => List Value → Option (List Value)) (fun l => takeN n l)
    (fun _ ih l => List.casesOn (motive := fun _ => Option (List Value)) l none (fun _ l => ih l)) off
/-- what stands there is written over -/
noncomputable def overO (vs : List Value) : List Value → Option (List Value) :=
  List.rec (motive := fun _ => List Value → Option (List Value)) (fun l => some l)
    (fun v _ ih l => List.casesOn (motive := fun _ => Option (List Value)) l none (fun _ l => match ih l with
      | some r => some (v :: r)
      | none => none)) vs
noncomputable def spliceO (off : Nat) (vs : List Value) : List Value → Option (List Value) :=
  Nat.rec (motive := fun _ => List Value → Option (List Value)) (fun l => overO vs l)
    (fun _ ih l => List.casesOn (motive := fun _ => Option (List Value)) l none (fun x l => match ih l with
      | some r => some (x :: r)
      | none => none)) off
noncomputable def nth (l : List Value) (n : Nat) : Option Value :=
  Nat.rec (motive := fun _ => List Value → Option Value) (fun l => List.casesOn (motive := fun _ => Option Value) l none (fun x _ => some x))
    (fun _ ih l => List.casesOn (motive := fun _ => Option Value) l none (fun _ l => ih l)) n l
noncomputable def partV (agg : Bool) (c : List Value) (off n : Nat) : Option Value :=
  match agg with
  | true => match subO off n c with
    | some r => some (.agg ⟨r⟩)
    | none => none
  | false => nth c off
noncomputable def fillL (ev : Opd → Value) : List (Nat × Nat × Opd) → List Value → Option (List Value)
  | [], cells => some cells
  | (off, size, x) :: rest, cells =>
    match Nat.beq (vcells (ev x)).length size with
    | true => match spliceO off (vcells (ev x)) cells with
      | some c => fillL ev rest c
      | none => none
    | false => none
def rep (z : List Value) : Nat → List Value
  | 0 => []
  | n + 1 => z ++ rep z n
def lenV : Value → Option Nat
  | .slice _ n _ => some n
  | .string s => some s.size
  | _ => none
/-- how two keys are held against one another -/
inductive KT where
  | int (k : IntKind)
  | bool
  | str
  | fnil
  | fcons (off n : Nat) (agg : Bool) (t rest : KT)
  | arr (n size : Nat) (agg : Bool) (e : KT)
noncomputable def eqAr (f : Value → Value → Option Bool) (agg : Bool) (size : Nat) (a b : List Value) : Nat → Nat → Option Bool
  | 0, _ => some true
  | n + 1, i =>
    match partV agg a (Nat.mul i size) size, partV agg b (Nat.mul i size) size with
    | some x, some y => match f x y, eqAr f agg size a b n (Nat.succ i) with
      | some p, some q => some (p && q)
      | _, _ => none
    | _, _ => none
def eqBs : List UInt8 → List UInt8 → Bool
  | [], [] => true
  | a :: s, b :: t => Nat.beq a.toNat b.toNat && eqBs s t
  | _, _ => false
def eqStr (a b : ByteArray) : Bool := eqBs a.data.toList b.data.toList
/-- equality of two values of one kind; none: it does not fit -/
noncomputable def eqS : KT → Value → Value → Option Bool
  | .int k, .int j a, .int i b => match eqK j k && eqK i k with
    | true => some (eqI a b)
    | false => none
  | .bool, .bool a, .bool b => some (a == b)
  | .str, .string a, .string b => some (eqStr a b)
  | .fnil, .agg _, .agg _ => some true
  | .fcons off n agg t rest, .agg a, .agg b =>
    match partV agg a.toList off n, partV agg b.toList off n with
    | some x, some y => match eqS t x y, eqS rest (.agg a) (.agg b) with
      | some p, some q => some (p && q)
      | _, _ => none
    | _, _ => none
  | .arr n size agg e, .agg a, .agg b => eqAr (eqS e) agg size a.toList b.toList n 0
  | _, _, _ => none
def bytesOf : List Value → Option (List UInt8)
  | [] => some []
  | .int .u8 n :: t => match bytesOf t with
    | some r => some (UInt8.ofNat n.toNat :: r)
    | none => none
  | _ => none
def byteVs (s : ByteArray) : List Value := s.data.toList.map fun b => .int .u8 (.ofNat b.toNat)
noncomputable def find (t : KT) (k : Value) : List MEnt → Nat → Option (Option (Nat × MEnt))
  | [], _ => some none
  | e :: es, i => match eqS t k e.key with
    | some true => some (some (i, e))
    | some false => find t k es (Nat.succ i)
    | none => none
def setE : List MEnt → Nat → MEnt → List MEnt
  | [], _, _ => []
  | _ :: l, 0, e => e :: l
  | x :: l, n + 1, e => x :: setE l n e
def delE : List MEnt → Nat → List MEnt
  | [], _ => []
  | _ :: l, 0 => l
  | x :: l, n + 1 => x :: delE l n
def sliceB (x : Option Value) (dflt top : Nat) : Option Nat :=
  match x with
  | none => some dflt
  | some (.int _ (.ofNat i)) => match Nat.ble i top with
    | true => some i
    | false => none
  | _ => none
/-- an address's `spot`, of a slice: none: its capacity is just so; some 0: an empty slice, wherever; some (e + 1): of elements of e cells, the true capacity may be more -/
def cutAt (n off esz : Nat) (sp : Option Nat) (l h m : Nat) : Value :=
  match Nat.beq m l with
  | true => match sp with
    | none => .slice (some ⟨n, off, none⟩) (h - l) 0
    | some _ => .slice (some ⟨0, 0, some 0⟩) 0 0
  | false => .slice (some ⟨n, off + l * esz, sp⟩) (h - l) (m - l)
def fitS (esz : Nat) : Option Nat → Bool
  | none => true
  | some 0 => false
  | some (e + 1) => Nat.beq e esz
def sliceOf (a : Option Addr) (len cap esz : Nat) (lo hi mx : Option Value) : Option Value :=
  match a, mx with
  | none, _ =>
    match sliceB mx cap cap with
    | none => none
    | some m => match sliceB hi len m with
      | none => none
      | some h => match sliceB lo 0 h with
        | none => none
        | some l => some (.slice none (h - l) (m - l))
  | some ⟨_, _, some 0⟩, some _ => none
  | some ⟨_, _, some 0⟩, none =>
      match sliceB hi 0 0 with
      | none => none
      | some h => match sliceB lo 0 h with
        | none => none
        | some _ => some (.slice (some ⟨0, 0, some 0⟩) 0 0)
  | some ⟨n, off, _⟩, some mv =>
      match sliceB (some mv) cap cap with
      | none => none
      | some m => match sliceB hi len m with
        | none => none
        | some h => match sliceB lo 0 h with
          | none => none
          | some l => some (cutAt n off esz none l h m)
  | some ⟨n, off, sp⟩, none =>
      match sliceB hi len cap with
      | none => none
      | some h => match sliceB lo 0 h with
        | none => none
        | some l => match fitS esz sp with
          | true => some (cutAt n off esz sp l h cap)
          | false => none
def intOp (op : BinOp) (k : IntKind) (a b : Int) : Option Value :=
  match op with
  | .add => some (.int k (wrapF k (Int.add a b)))
  | .sub => some (.int k (wrapF k (Int.sub a b)))
  | .mul => some (.int k (wrapF k (Int.mul a b)))
  | .eql => some (.bool (eqI a b))
  | .neq => some (.bool (!eqI a b))
  | .lss => some (.bool (ltI a b))
  | .leq => some (.bool (!ltI b a))
  | .gtr => some (.bool (ltI b a))
  | .geq => some (.bool (!ltI a b))
  | .quo => match eqI b 0 with
    | true => none
    | false => some (.int k (wrapF k (a.tdiv b)))
  | .rem => match eqI b 0 with
    | true => none
    | false => some (.int k (a.tmod b))
  | .and => some (.int k (wrapF k (BitVec.ofInt k.bits a &&& BitVec.ofInt k.bits b).toNat))
  | .or => some (.int k (wrapF k (BitVec.ofInt k.bits a ||| BitVec.ofInt k.bits b).toNat))
  | .xor => some (.int k (wrapF k (BitVec.ofInt k.bits a ^^^ BitVec.ofInt k.bits b).toNat))
  | .andNot => some (.int k (wrapF k (BitVec.ofInt k.bits a &&& ~~~ (BitVec.ofInt k.bits b)).toNat))
  | _ => none
def strOp (op : BinOp) (a b : ByteArray) : Option Value :=
  match op with
  | .add => match Nat.blt (Nat.add a.size b.size) 9223372036854775808 with
    | true => some (.string (a ++ b))
    | false => none
  | .eql => some (.bool (eqStr a b))
  | .neq => some (.bool (!eqStr a b))
  | .lss => some (.bool (Op.bytesLess a.data.toList b.data.toList))
  | .leq => some (.bool (Op.bytesLess a.data.toList b.data.toList || eqStr a b))
  | .gtr => some (.bool (!(Op.bytesLess a.data.toList b.data.toList || eqStr a b)))
  | .geq => some (.bool (!Op.bytesLess a.data.toList b.data.toList))
  | _ => none
def shOp (op : BinOp) (k : IntKind) (a b : Int) : Option Value :=
  match b with
  | .negSucc _ => none
  | .ofNat m => match op with
    | .shl => some (.int k (wrapF k (a * 2 ^ min m k.bits)))
    | .shr => some (.int k (a.fdiv (2 ^ min m k.bits)))
    | _ => none
def isSh : BinOp → Bool
  | .shl | .shr => true
  | _ => false
def binV (op : BinOp) (x y : Value) : Option Value :=
  match x, y with
  | .int k a, .int k' b => match isSh op with
    | true => shOp op k a b
    | false => match eqK k k' with
      | true => intOp op k a b
      | false => none
  | .string a, .string b => strOp op a b
  | _, _ => none
def boolV (op : BinOp) (x y : Value) : Option Value :=
  match x, y with
  | .bool a, .bool b => match op with
    | .eql => some (.bool (a == b))
    | .neq => some (.bool (!(a == b)))
    | _ => none
  | _, _ => none
def unV (op : UnOp) (x : Value) : Option Value :=
  match op, x with
  | .neg, .int k n => some (.int k (wrapF k (0 - n)))
  | .xor, .int k n => some (.int k (wrapF k (BitVec.ofInt k.bits (if k.signed then -1 else k.max) ^^^ BitVec.ofInt k.bits n).toNat))
  | .not, .bool b => some (.bool !b)
  | _, _ => none
/-- kinds of values that can be nil -/
inductive NK where | p | s | m | f
/-- is it nil? -/
def nilV : NK → Value → Option Bool
  | .p, .pointer a => some a.isNone
  | .s, .slice a _ _ => some a.isNone
  | .m, .map a => some a.isNone
  | .f, .nilFunc => some true
  | .f, .func .. => some false
  | _, _ => none
def mm2 (max : Bool) : Value → Value → Option Value
  | .int k x, .int j y => match eqK j k with
    | true => some (.int k (cond (cond max (ltI x y) (ltI y x)) y x))
    | false => none
  | _, _ => none
noncomputable def mmL (max : Bool) (ev : Opd → Value) : Value → List Opd → Option Value
  | x, [] => some x
  | x, y :: rest => match mm2 max x (ev y) with
    | some z => mmL max ev z rest
    | none => none

/-! ### simple operations: the value, and what is made -/
abbrev Look := Nat → Option AObj
abbrev SF := Nat → (Opd → Value) → Look → Option (Value × Option AObj)
abbrev HF := (Opd → Value) → Heap → Option (Value × Heap)
/-- nothing is made -/
def val : Option Value → Option (Value × Option AObj)
  | some v => some (v, none)
  | none => none
def sMov (x : Opd) : SF := fun _ ev _ => some (ev x, none)
def sPick (c a b : Opd) : SF := fun _ ev _ => match ev c with
  | .bool true => some (ev a, none)
  | .bool false => some (ev b, none)
  | _ => none
def sAlloc (z : List Value) : SF := fun nm _ _ => some (.pointer (some ⟨nm, 0, none⟩), some (.cells z .var))
def sBox (x : Opd) : SF := fun nm ev _ => some (.pointer (some ⟨nm, 0, none⟩), some (.cells (vcells (ev x)) .var))
noncomputable def sBuild (z : List Value) (parts : List (Nat × Nat × Opd)) : SF := fun _ ev _ => match fillL ev parts z with
  | some c => some (.agg ⟨c⟩, none)
  | none => none
noncomputable def sBslice (z : List Value) (len : Nat) (parts : List (Nat × Nat × Opd)) : SF := fun nm ev _ => match fillL ev parts z with
  | some c => some (.slice (some ⟨nm, 0, none⟩) len len, some (.cells c .row))
  | none => none
noncomputable def sLoad (agg : Bool) (n : Nat) (a : Opd) : SF := fun _ ev look => match ev a with
  | .pointer (some ⟨b, off, none⟩) => match look b with
    | some (.cells c _) => val (partV agg c off n)
    | _ => none
  | _ => none
def sNilc (x : Opd) : SF := fun _ ev _ => match ev x with
  | .pointer (some a) => some (.pointer (some a), none)
  | .func (.func f) a b => some (.func (.func f) a b, none)
  | _ => none
def sBin (op : BinOp) (x y : Opd) : SF := fun _ ev _ => val (binV op (ev x) (ev y))
def sBinB (op : BinOp) (x y : Opd) : SF := fun _ ev _ => val (boolV op (ev x) (ev y))
def sEqn (neg : Bool) (k : NK) (x : Opd) : SF := fun _ ev _ => match nilV k (ev x) with
  | some b => some (.bool (b != neg), none)
  | none => none
noncomputable def sEqk (neg : Bool) (t : KT) (x y : Opd) : SF := fun _ ev _ => match eqS t (ev x) (ev y) with
  | some b => some (.bool (b != neg), none)
  | none => none
def sUn (op : UnOp) (x : Opd) : SF := fun _ ev _ => val (unV op (ev x))
def sCvi (k : IntKind) (x : Opd) : SF := fun _ ev _ => match ev x with
  | .int _ n => some (.int k (wrapF k n), none)
  | _ => none
def sCvss (x : Opd) : SF := fun _ ev _ => match ev x with
  | .string s => some (.string s, none)
  | _ => none
def sCvsb (x : Opd) : SF := fun nm ev _ => match ev x with
  | .string s => some (.slice (some ⟨nm, 0, some 2⟩) s.size s.size, some (.cells (byteVs s) (.grown 1)))
  | _ => none
def sMark (x : Opd) : SF := fun _ ev look => match ev x with
  | .slice (some ⟨_, _, some 0⟩) _ _ => none
  | .slice (some ⟨b, off, sp⟩) l c => match look b with
    | some (.cells _ .row) => some (.slice (some ⟨b, off, sp⟩) l c, none)
    | some (.cells _ (.grown _)) => some (.slice (some ⟨b, off, sp⟩) l c, none)
    | _ => none
  | _ => none
def sS2a (n : Nat) (x : Opd) : SF := fun _ ev _ => match ev x with
  | .slice (some ⟨_, _, some 0⟩) _ _ => none
  | .slice (some ⟨b, off, _⟩) len _ => match Nat.ble n len with
    | true => some (.pointer (some ⟨b, off, none⟩), none)
    | false => none
  | _ => none
def sMkf (f : Nat) (first captured : List Opd) : SF := fun _ ev _ => some (.func (.func f) ⟨first.map ev⟩ ⟨captured.map ev⟩, none)
def sMkmap : SF := fun nm _ _ => some (.map (some nm), some (.map [] 0))
def sMkslice (z : List Value) (bytes : Nat) (l c : Opd) : SF := fun nm ev _ => match ev l, ev c with
  | .int _ (.ofNat l), .int _ (.ofNat c) => match Nat.ble l c && Nat.ble (Nat.mul (Nat.succ bytes) c) 70368744177664 with
    | true => some (.slice (some ⟨nm, 0, none⟩) l c, some (.cells (rep z c) .row))
    | false => none
  | _, _ => none
def oev (ev : Opd → Value) : Option Opd → Option Value
  | none => none
  | some x => some (ev x)
def sSlc (esz : Nat) (x : Opd) (lo hi mx : Option Opd) : SF := fun _ ev _ => match ev x with
  | .slice a len cap => val (sliceOf a len cap esz (oev ev lo) (oev ev hi) (oev ev mx))
  | _ => none
def sSlstr (x : Opd) (lo hi : Option Opd) : SF := fun _ ev _ => match ev x with
  | .string s => match sliceB (oev ev hi) s.size s.size with
    | none => none
    | some h => match sliceB (oev ev lo) 0 h with
      | none => none
      | some l => some (.string ⟨⟨(s.data.toList.drop l).take (h - l)⟩⟩, none)
  | _ => none
def sSlarr (n esz : Nat) (x : Opd) (lo hi mx : Option Opd) : SF := fun _ ev _ => match ev x with
  | .pointer (some ⟨b, off, none⟩) => val (sliceOf (some ⟨b, off, none⟩) n n esz (oev ev lo) (oev ev hi) (oev ev mx))
  | _ => none
def sFld (off : Nat) (x : Opd) : SF := fun _ ev _ => match ev x with
  | .pointer (some ⟨b, o, none⟩) => some (.pointer (some ⟨b, Nat.add o off, none⟩), none)
  | _ => none
noncomputable def sFldv (agg : Bool) (off n : Nat) (x : Opd) : SF := fun _ ev _ => match ev x with
  | .agg cs => val (partV agg cs.toList off n)
  | _ => none
def sIxa (len esz : Nat) (x i : Opd) : SF := fun _ ev _ => match ev x, ev i with
  | .pointer (some ⟨b, off, none⟩), .int _ (.ofNat i) => match Nat.blt i len with
    | true => some (.pointer (some ⟨b, Nat.add off (Nat.mul i esz), none⟩), none)
    | false => none
  | _, _ => none
def sIxs (esz : Nat) (x i : Opd) : SF := fun _ ev _ => match ev x, ev i with
  | .slice (some ⟨_, _, some 0⟩) _ _, _ => none
  | .slice (some ⟨b, off, _⟩) len _, .int _ (.ofNat i) => match Nat.blt i len with
    | true => some (.pointer (some ⟨b, Nat.add off (Nat.mul i esz), none⟩), none)
    | false => none
  | _, _ => none
noncomputable def sIxv (len esz : Nat) (agg : Bool) (x i : Opd) : SF := fun _ ev _ => match ev x, ev i with
  | .agg cs, .int _ (.ofNat i) => match Nat.blt i len with
    | true => val (partV agg cs.toList (Nat.mul i esz) esz)
    | false => none
  | _, _ => none
def byteAt : List UInt8 → Nat → Option Value
  | [], _ => none
  | b :: _, 0 => some (.int .u8 (.ofNat b.toNat))
  | _ :: l, n + 1 => byteAt l n
def sIxstr (x i : Opd) : SF := fun _ ev _ => match ev x, ev i with
  | .string s, .int _ (.ofNat i) => val (byteAt s.data.toList i)
  | _, _ => none
noncomputable def sExt (x : Opd) (i : Nat) : SF := fun _ ev _ => match ev x with
  | .tuple vs => val (nth vs.toList i)
  | _ => none
def sLens (x : Opd) : SF := fun _ ev _ => match ev x with
  | .string s => some (.int .i64 (.ofNat s.size), none)
  | _ => none
def sLen (x : Opd) : SF := fun _ ev _ => match ev x with
  | .slice _ n _ => some (.int .i64 (.ofNat n), none)
  | _ => none
def sLena (n : Nat) : SF := fun _ _ _ => some (.int .i64 (.ofNat n), none)
noncomputable def sMm (max : Bool) (x : Opd) (xs : List Opd) : SF := fun _ ev _ => val (mmL max ev (ev x) xs)
/-- the cells of the first n elements of a slice or a string -/
noncomputable def firstOf (look : Look) (esz n : Nat) : Value → Option (List Value)
  | .slice none _ _ => match n with
    | 0 => some []
    | _ => none
  | .slice (some ⟨_, _, some 0⟩) _ _ => match n with
    | 0 => some []
    | _ => none
  | .slice (some ⟨b, off, _⟩) _ _ => match n with
    | 0 => some []
    | n + 1 => match look b with
      | some (.cells c _) => subO off (Nat.mul (Nat.succ n) esz) c
      | _ => none
  | .string s => match Nat.beq n s.size with
    | true => some (byteVs s)
    | false => none
  | _ => none
noncomputable def sCvbs (x : Opd) : SF := fun _ ev look => match ev x with
  | .slice a l c => match firstOf look 1 l (.slice a l c) with
    | some cs => match bytesOf cs with
      | some bs => some (.string ⟨⟨bs⟩⟩, none)
      | none => none
    | none => none
  | _ => none
noncomputable def sLookup (t : KT) (z : Value) (ok : Bool) (m k : Opd) : SF := fun _ ev look => match ev m with
  | .map none => match eqS t (ev k) (ev k) with
    | some _ => some (cond ok (.tuple ⟨[z, .bool false]⟩) z, none)
    | none => none
  | .map (some n) => match look n, eqS t (ev k) (ev k) with
    | some (.map es _), some _ => match find t (ev k) es 0 with
      | some (some (_, e)) => some (cond ok (.tuple ⟨[e.val, .bool true]⟩) e.val, none)
      | some none => some (cond ok (.tuple ⟨[z, .bool false]⟩) z, none)
      | none => none
    | _, _ => none
  | _ => none
def sLenm (m : Opd) : SF := fun _ ev look => match ev m with
  | .map none => some (.int .i64 0, none)
  | .map (some n) => match look n with
    | some (.map es _) => some (.int .i64 (.ofNat es.length), none)
    | _ => none
  | _ => none

/-- are two scalars the same? -/
def sameS : Value → Value → Bool
  | .bool a, .bool b => a == b
  | .int j a, .int k b => eqK j k && eqI a b
  | .string a, .string b => eqStr a b
  | .pointer a, .pointer b => decide (a = b)
  | .slice a l c, .slice b l' c' => decide (a = b) && Nat.beq l l' && Nat.beq c c'
  | .map a, .map b => decide (a = b)
  | .nilFunc, .nilFunc => true
  | .nilIface, .nilIface => true
  | _, _ => false
def sameL : List Value → List Value → Bool
  | [], [] => true
  | a :: s, b :: t => sameS a b && sameL s t
  | _, _ => false
def sameW : Value → Value → Bool
  | .agg a, .agg b => sameL a.toList b.toList
  | a, b => sameS a b
def sameLW : List Value → List Value → Bool
  | [], [] => true
  | a :: s, b :: t => sameW a b && sameLW s t
  | _, _ => false
def sameV : Value → Value → Bool
  | .tuple a, .tuple b => sameLW a.toList b.toList
  | a, b => sameW a b
/-- are two keys the same, to the bit? -/
def sameKS : Value → Value → Bool
  | .bool a, .bool b => a == b
  | .int j a, .int k b => eqK j k && eqI a b
  | .string a, .string b => eqStr a b
  | _, _ => false
def sameKL : List Value → List Value → Bool
  | [], [] => true
  | a :: s, b :: t => sameKS a b && sameKL s t
  | _, _ => false
def sameK : Value → Value → Bool
  | .agg a, .agg b => sameKL a.toList b.toList
  | a, b => sameKS a b
/-! ### the others, but calls -/
def appBig (n bytes : Nat) : Bool := Nat.ble (Nat.mul (Nat.mul 4 (Nat.succ n)) (Nat.succ bytes)) 70368744177664
noncomputable def appB (esz bytes : Nat) (s x : Value) (h : Heap) : Option (Value × Heap) :=
  match lenV x with
  | none => none
  | some n => match firstOf h.get esz n x with
    | none => none
    | some new =>
      match cond (Nat.beq new.length (Nat.mul n esz)) s undef with
      | .slice none 0 0 =>
        match n with
        | 0 => some (s, h)
        | n + 1 => match appBig (Nat.succ n) bytes with
          | true => some (.slice (some ⟨h.next, 0, some (Nat.succ esz)⟩) (Nat.succ n) (Nat.succ n), h.new (.cells new (.grown esz)))
          | false => none
      | .slice (some ⟨_, _, some 0⟩) _ _ =>
        match n with
        | 0 => some (s, h)
        | _ => none
      | .slice (some ⟨b, off, sp⟩) len cap =>
        match h.get b with
        | some (.cells c k) =>
          match Nat.ble (Nat.add len n) cap with
          | true => match spliceO (Nat.add off (Nat.mul len esz)) new c, oneL new with
            | some c', true => some (.slice (some ⟨b, off, sp⟩) (Nat.add len n) cap, h.set b (.cells c' k))
            | _, _ => none
          | false => match subO off (Nat.mul len esz) c, appBig (Nat.add len n) bytes && oneL new with
            | some old, true => match sp, k with
              | none, _ => some (.slice (some ⟨h.next, 0, some (Nat.succ esz)⟩) (Nat.add len n) (Nat.add len n), h.new (.cells (old ++ new) (.grown esz)))
              | some (s + 1), .grown e => match Nat.beq s esz && Nat.beq e esz && Nat.beq (Nat.add off (Nat.mul len esz)) c.length with
                | true => some (.slice (some ⟨h.next, 0, some (Nat.succ esz)⟩) (Nat.add len n) (Nat.add len n), (h.rem b).new (.cells (old ++ new) (.grown esz)))
                | false => none
              | _, _ => none
            | _, _ => none
        | _ => none
      | _ => none
noncomputable def hApp (esz bytes : Nat) (s x : Opd) : HF := fun ev h => appB esz bytes (ev s) (ev x) h
noncomputable def hStore (n : Nat) (a x : Opd) : HF := fun ev h => match ev a with
  | .pointer (some ⟨b, off, none⟩) => match h.get b, Nat.beq (vcells (ev x)).length n with
    | some (.cells c k), true => match spliceO off (vcells (ev x)) c, oneL (vcells (ev x)) with
      | some c', true => some (undef, h.set b (.cells c' k))
      | _, _ => none
    | _, _ => none
  | _ => none
noncomputable def hEqp (neg : Bool) (x y : Opd) : HF := fun ev h => match ev x, ev y with
  | .pointer none, .pointer b => some (.bool (b.isNone != neg), h)
  | .pointer _, .pointer none => some (.bool (false != neg), h)
  | .pointer (some ⟨n, o, none⟩), .pointer (some ⟨m, q, none⟩) => match h.get n, h.get m with
    | some (.cells (_ :: _) .var), some (.cells (_ :: _) .var) => some (.bool ((Nat.beq n m && Nat.beq o q) != neg), h)
    | _, _ => none
  | _, _ => none
noncomputable def hMset (t : KT) (m k v : Opd) : HF := fun ev h => match ev m with
  | .map (some n) => match h.get n, eqS t (ev k) (ev k) with
    | some (.map es clock), some _ => match find t (ev k) es 0 with
      | some (some (i, e)) => match sameK (ev k) e.key with
        | true => some (undef, h.set n (.map (setE es i { key := ev k, val := ev v, born := e.born }) clock))
        | false => none
      | some none => some (undef, h.set n (.map (es ++ [{ key := ev k, val := ev v, born := clock }]) (Nat.succ clock)))
      | none => none
    | _, _ => none
  | _ => none
noncomputable def hMent (t : KT) (z : Value) (m k : Opd) : HF := fun ev h => match ev m with
  | .map (some n) => match h.get n, eqS t (ev k) (ev k) with
    | some (.map es clock), some _ => match find t (ev k) es 0 with
      | some (some (i, e)) => match sameK (ev k) e.key with
        | true => some (.tuple ⟨[e.val, .int .i64 (.ofNat e.born)]⟩, h.set n (.map (setE es i { key := ev k, val := e.val, born := e.born }) clock))
        | false => none
      | some none => some (.tuple ⟨[z, .int .i64 (.ofNat clock)]⟩, h.set n (.map (es ++ [{ key := ev k, val := z, born := clock }]) (Nat.succ clock)))
      | none => none
    | _, _ => none
  | _ => none
def findB (b : Nat) : List MEnt → Nat → Option (Nat × MEnt)
  | [], _ => none
  | e :: es, i => match Nat.beq e.born b with
    | true => some (i, e)
    | false => findB b es (Nat.succ i)
noncomputable def hEsto (m s v : Opd) : HF := fun ev h => match ev m, ev s with
  | .map (some n), .int _ (.ofNat b) => match h.get n with
    | some (.map es clock) => match findB b es 0 with
      | some (i, e) => some (undef, h.set n (.map (setE es i { key := e.key, val := ev v, born := e.born }) clock))
      | none => none
    | _ => none
  | _, _ => none
noncomputable def hDel (t : KT) (m k : Opd) : HF := fun ev h => match ev m with
  | .map none => match eqS t (ev k) (ev k) with
    | some _ => some (undef, h)
    | none => none
  | .map (some n) => match h.get n, eqS t (ev k) (ev k) with
    | some (.map es clock), some _ => match find t (ev k) es 0 with
      | some (some (i, _)) => some (undef, h.set n (.map (delE es i) clock))
      | some none => some (undef, h)
      | none => none
    | _, _ => none
  | _ => none
noncomputable def hRangem (x : Opd) : HF := fun ev h => match ev x with
  | .map none => some (.pointer (some ⟨h.next, 0, none⟩), h.new (.miter none 0 [] 0))
  | .map (some n) => match h.get n with
    | some (.map _ clock) => some (.pointer (some ⟨h.next, 0, none⟩), h.new (.miter (some n) clock [] clock))
    | _ => none
  | _ => none
noncomputable def hRanges (x : Opd) : HF := fun ev h => match ev x with
  | .string s => some (.pointer (some ⟨h.next, 0, none⟩), h.new (.siter s 0))
  | _ => none
def inN : List Nat → Nat → Bool
  | [], _ => false
  | x :: l, n => cond (Nat.beq x n) true (inN l n)
/-- which entries a range over a map may come to next: those of old, new ones -/
def leftOf (since : Nat) (seen : List Nat) (old : Bool) : List MEnt → List MEnt
  | [] => []
  | e :: es => match inN seen e.born, Nat.blt e.born since == old with
    | false, true => e :: leftOf since seen old es
    | _, _ => leftOf since seen old es
def allNew (last : Nat) : List MEnt → Bool
  | [] => true
  | e :: es => Nat.ble last e.born && allNew last es
noncomputable def hNextm (x : Opd) : HF := fun ev h => match ev x with
  | .pointer (some ⟨r, off, none⟩) => match cond (Nat.beq off 0) (h.get r) none with
    | some (.miter none _ _ _) => some (.tuple ⟨[.bool false]⟩, h)
    | some (.miter (some m) since seen last) => match h.get m with
      | some (.map es clock) =>
        match !seen.isEmpty && !es.isEmpty && allNew last es with
        | true => none
        | false => match leftOf since seen true es, leftOf since seen false es with
          | [], [] => some (.tuple ⟨[.bool false]⟩, h)
          | [e], [] => some (.tuple ⟨[.bool true, e.key, e.val]⟩, h.set r (.miter (some m) since (seen ++ [e.born]) clock))
          | _, _ => none
      | _ => none
    | _ => none
  | _ => none
noncomputable def hNexts (x : Opd) : HF := fun ev h => match ev x with
  | .pointer (some ⟨r, off, none⟩) => match cond (Nat.beq off 0) (h.get r) none with
    | some (.siter s pos) => match Nat.blt pos s.size with
      | true => some (.tuple ⟨[.bool true, .int .i64 (.ofNat pos), .int .i32 (Utf8.decode s pos).1]⟩, h.set r (.siter s (pos + (Utf8.decode s pos).2)))
      | false => some (.tuple ⟨[.bool false]⟩, h)
    | _ => none
  | _ => none
noncomputable def hEntry (x : Opd) : HF := fun ev h => match ev x with
  | .pointer (some ⟨r, off, none⟩) => match cond (Nat.beq off 0) (h.get r) none with
    | some (.miter (some m) _ seen stepped) => match seen.getLast?, h.get m with
      | some stamp, some (.map es clock) => match Nat.beq clock stepped, findB stamp es 0 with
        | true, some (_, e) => some (.tuple ⟨[e.key, e.val]⟩, h)
        | _, _ => none
      | _, _ => none
    | _ => none
  | _ => none
noncomputable def hClr (z : List Value) (s : Opd) : HF := fun ev h => match ev s with
  | .slice none _ _ => some (undef, h)
  | .slice (some ⟨_, _, some 0⟩) _ _ => some (undef, h)
  | .slice (some ⟨b, off, _⟩) len _ => match len with
    | 0 => some (undef, h)
    | len + 1 => match h.get b with
      | some (.cells c k) => match spliceO off (rep z (Nat.succ len)) c, oneL z with
        | some c', true => some (undef, h.set b (.cells c' k))
        | _, _ => none
      | _ => none
  | _ => none

/-! ### operations, resolved; code -/
inductive Act1 where
  | simp (looks : Bool) (f : SF)
  | heavy (f : HF)
  | call (f : Opd) (args : List Opd)
def Act1.simple : Act1 → Bool
  | .simp .. => true
  | _ => false
structure BOper where
  idx : Nat                        -- in the text
  dst : Option Nat
  guard : Option (Nat × Bool)      -- the slot that is asked
  op : Act1
  q : Nat                          -- of a region that draws: so many of its operations that are not simple are surely ahead of it
inductive BCode where
  | skip
  | reg (n : Nat) (ops : List BOper)
  | drawn (n : Nat) (ops : List BOper)
  | seq (a b : BCode)
  | cond (c : Opd) (a b : BCode)
  | block (id : Nat) (b : BCode)
  | loop (b : BCode)
  | exit (id : Nat)
  | ret
inductive BRes where
  | tmp (t : Nat)
  | cell (t : Nat) (agg : Bool) (n : Nat)
structure BFun where
  body : BCode
  ntmps : Nat
  res : List BRes

/-! ### the machine -/
inductive Ex where | normal | exit (id : Nat) | ret
noncomputable def evA (t : Tr Value) : Opd → Value
  | .tmp i => match t.get i with
    | some v => v
    | none => undef
  | .const v => v
  | .global g => .pointer (some ⟨g, 0, none⟩)
  | .func f => .func (.func f) #[] #[]
noncomputable def putA (t : Tr Value) (d : Option Nat) (v : Value) : Tr Value := match d with | some i => t.put i v | none => t
noncomputable def wantedA (t : Tr Value) : Option (Nat × Bool) → Bool
  | none => true
  | some (g, want) => match t.get g with
    | some (.bool b) => b == want
    | _ => false
/-- a heap's table, and what simple operations made since -/
abbrev Snap := Tr AObj × List (Nat × AObj)
noncomputable def lookS (s : Tr AObj) (made : List (Nat × AObj)) : Look := fun k => match s.get k with
  | some o => some o
  | none => lget made k
/-- does a look give the same in each of the first n of these heaps, with what was made since? -/
noncomputable def steady (f : SF) (nm : Nat) (ev : Opd → Value) (v : Value) : List (Nat × AObj) → Nat → List Snap → Bool
  | _, 0, _ => true
  | _, _ + 1, [] => false
  | made, n + 1, s :: rest =>
    (match f nm ev (lookS s.1 (s.2 ++ made)) with
    | some (u, none) => sameV u v
    | _ => false) && steady f nm ev v (s.2 ++ made) n rest
/-- the same, but for the last snapshot, which is what there is now -/
noncomputable def steadyL (f : SF) (nm : Nat) (ev : Opd → Value) (v : Value) (n : Nat) : List Snap → Bool
  | [] => true
  | s :: rest => steady f nm ev v s.2 (Nat.pred n) rest
abbrev Call := Nat → List Value → Heap → Option (Value × Heap)
abbrev Ov := Nat → Option (List Value → Heap → Option (Value × Heap))
structure Mach where
  fn : Nat → Option BFun
  ov : Ov
noncomputable def resA (h : Heap) (t : Tr Value) : BRes → Option Value
  | .tmp i => some (evA t (.tmp i))
  | .cell i agg n => match evA t (.tmp i) with
    | .pointer (some ⟨b, off, none⟩) => match h.get b with
      | some (.cells c _) => partV agg c off n
      | _ => none
    | _ => none
noncomputable def resL (h : Heap) (t : Tr Value) : List BRes → Option (List Value)
  | [] => some []
  | r :: rs => match resA h t r, resL h t rs with
    | some v, some vs => some (v :: vs)
    | _, _ => none
noncomputable def argsT : List Value → Nat → Tr Value → Tr Value
  | [], _, t => t
  | v :: vs, i, t => argsT vs (Nat.succ i) (t.put i v)
noncomputable def doCall (cl : Call) (t : Tr Value) (f : Opd) (args : List Opd) (h : Heap) : Option (Value × Heap) :=
  match evA t f with
  | .func (.func g) first captured => cl g (first.toList ++ args.map (evA t) ++ captured.toList) h
  | _ => none
noncomputable def doHard (cl : Call) (t : Tr Value) (h : Heap) : Act1 → Option (Value × Heap)
  | .simp .. => none
  | .heavy f => f (evA t) h
  | .call f args => doCall cl t f args h
/-- one operation of a region in the order of its text -/
noncomputable def regStep (cl : Call) (base : Nat) (o : BOper) (ih : Tr Value → Heap → Option (Tr Value × Heap)) (t : Tr Value) (h : Heap) : Option (Tr Value × Heap) :=
  match wantedA t o.guard with
  | false => ih (putA t o.dst undef) h
  | true =>
    match o.op with
    | .simp _ f => match f (Nat.add base o.idx) (evA t) h.get with
      | none => none
      | some (v, ob) => ih (putA t o.dst v) (h.putO (Nat.add base o.idx) ob)
    | op => match doHard cl t h op with
      | none => none
      | some (v, h') => ih (putA t o.dst v) h'
/-- a region in the order of its text -/
noncomputable def regA (cl : Call) (base : Nat) (l : List BOper) : Tr Value → Heap → Option (Tr Value × Heap) :=
  List.rec (motive := fun _ => Tr Value → Heap → Option (Tr Value × Heap)) (fun t h => some (t, h)) (fun o _ ih t h => regStep cl base o ih t h) l
/-- a simple operation has made something -/
def madeS (nm : Nat) (o : AObj) : List Snap → List Snap
  | [] => []
  | s :: rest => (s.1, (nm, o) :: s.2) :: rest
/-- one operation of a region that draws its order; `snaps`: what there was behind each operation that is not simple, the last first -/
noncomputable def drawStep (cl : Call) (base : Nat) (o : BOper) (ih : Tr Value → Heap → List Snap → Option (Tr Value × Heap)) (t : Tr Value) (h : Heap) (snaps : List Snap) : Option (Tr Value × Heap) :=
  match wantedA t o.guard with
  | false => match o.op.simple with
    | true => ih (putA t o.dst undef) h snaps
    | false => ih (putA t o.dst undef) h ((h.tab, []) :: snaps)
  | true =>
    match o.op with
    | .simp looks f => match f (Nat.add base o.idx) (evA t) h.get with
      | none => none
      | some (v, none) =>
        match looks && !steadyL f (Nat.add base o.idx) (evA t) v (snaps.length - o.q) snaps with
        | true => none
        | false => ih (putA t o.dst v) h snaps
      | some (v, some ob) => match looks with
        | true => none
        | false => ih (putA t o.dst v) (h.set (Nat.add base o.idx) ob) (madeS (Nat.add base o.idx) ob snaps)
    | op => match doHard cl t h op with
      | none => none
      | some (v, h') => ih (putA t o.dst v) h' ((h'.tab, []) :: snaps)
/-- a region that draws its order, in the canonical one -/
noncomputable def drawA (cl : Call) (base : Nat) (l : List BOper) : Tr Value → Heap → List Snap → Option (Tr Value × Heap) :=
  List.rec (motive := fun _ => Tr Value → Heap → List Snap → Option (Tr Value × Heap)) (fun t h _ => some (t, h)) (fun o _ ih t h sn => drawStep cl base o ih t h sn) l
noncomputable def codeStep (cl : Call) (ih : BCode → Tr Value → Heap → Option (Ex × Tr Value × Heap)) (c : BCode) (t : Tr Value) (h : Heap) : Option (Ex × Tr Value × Heap) :=
  match c with
  | .skip => some (.normal, t, h)
  | .reg n ops => match regA cl h.next ops t { next := Nat.add h.next n, tab := h.tab } with
    | some (t, h) => some (.normal, t, h)
    | none => none
  | .drawn n ops => match drawA cl h.next ops t { next := Nat.add h.next n, tab := h.tab } [(h.tab, [])] with
    | some (t, h) => some (.normal, t, h)
    | none => none
  | .seq a b => match ih a t h with
    | some (.normal, t, h) => ih b t h
    | r => r
  | .cond c a b => match evA t c with
    | .bool true => ih a t h
    | .bool false => ih b t h
    | _ => none
  | .block id b => match ih b t h with
    | some (.exit i, t, h) => match Nat.beq i id with
      | true => some (.normal, t, h)
      | false => some (.exit i, t, h)
    | r => r
  | .loop b => match ih b t h with
    | some (.normal, t, h) => ih (.loop b) t h
    | r => r
  | .exit id => some (.exit id, t, h)
  | .ret => some (.ret, t, h)
noncomputable def codeA (cl : Call) (fuel : Nat) : BCode → Tr Value → Heap → Option (Ex × Tr Value × Heap) :=
  Nat.rec (motive := fun _ => BCode → Tr Value → Heap → Option (Ex × Tr Value × Heap)) (fun _ _ _ => none) (fun _ ih c t h => codeStep cl ih c t h) fuel
noncomputable def finish (r : List BRes) : Option (Ex × Tr Value × Heap) → Option (Value × Heap)
  | some (.exit _, _, _) => none
  | some (_, t, h') => match resL h' t r with
    | some [v] => some (v, h')
    | some vs => some (.tuple ⟨vs⟩, h')
    | none => none
  | none => none
noncomputable def callStep (m : Mach) (fuel : Nat) (ih : Call) (f : Nat) (args : List Value) (h : Heap) : Option (Value × Heap) :=
  match m.ov f with
  | some g => g args h
  | none => match m.fn f with
    | none => none
    | some b => finish b.res (codeA ih fuel b.body (argsT args 0 (.tip [])) h)
noncomputable def callA (m : Mach) (fuel depth : Nat) : Call :=
  Nat.rec (motive := fun _ => Call) (fun _ _ _ => none) (fun _ ih f args h => callStep m fuel ih f args h) depth
end Go.AM

/- From a function's code to the abstract machine's: operations with their types looked up once, regions that draw their order in a canonical one. -/
namespace Go.AM

/-- what is needed of a type -/
structure TyI where
  under : TypeDesc
  size : Nat
  bytes : Nat
  zero : Value
def TyI.agg (t : TyI) : Bool := match t.under with | .struct _ | .array _ _ => true | _ => false
abbrev Ty := Nat → Option TyI

/-- a constant without addresses -/
def closedV : Value → Bool
  | .bool _ | .int .. | .string _ | .pointer none | .slice none _ _ | .map none | .nilFunc | .nilIface => true
  | _ => false
def closedO : Operand → Bool
  | .const v => closedV v
  | .global _ => false
  | _ => true
def fieldsT (ty : Ty) (k : TypeId → Option KT) : List Field → Option KT
  | [] => some .fnil
  | f :: fs =>
    if f.name = "_" then none else
    match ty f.type, k f.type, fieldsT ty k fs with
    | some fi, some t, some rest => some (.fcons f.offset fi.size fi.agg t rest)
    | _, _, _ => none
def keyT (ty : Ty) : Nat → TypeId → Option KT
  | 0, _ => none
  | d + 1, t => match ty t with
    | none => none
    | some i => match i.under with
      | .int k => some (.int k)
      | .bool => some .bool
      | .string => some .str
      | .array n e => match ty e, keyT ty d e with
        | some ei, some k => some (.arr n ei.size ei.agg k)
        | _, _ => none
      | .struct fs => fieldsT ty (keyT ty d) fs.toList
      | _ => none
def kdepth : Nat := 8

def partsS (ty : Ty) (fs : Array Field) : List (Nat × Operand) → Option (List (Nat × Nat × Operand))
  | [] => some []
  | (i, x) :: rest => match fs[i]? with
    | none => none
    | some f => match ty f.type, partsS ty fs rest with
      | some fi, some r => some ((f.offset, fi.size, x) :: r)
      | _, _ => none
def partsA (s : Nat) (l : List (Nat × Operand)) : List (Nat × Nat × Operand) := l.map fun p => (p.1 * s, s, p.2)
def isNilConst : NK → Operand → Bool
  | .p, .const (.pointer none) | .s, .const (.slice none _ _) | .m, .const (.map none) | .f, .const .nilFunc => true
  | _, _ => false
def S (f : SF) : Option Act1 := some (.simp false f)
def L (f : SF) : Option Act1 := some (.simp true f)
def H (f : HF) : Option Act1 := some (.heavy f)
def TyI.cells (t : TyI) : Nat := cond t.agg t.size 1
noncomputable def eqOp (ty : Ty) (neg : Bool) (t : TypeId) (x y : Operand) (u : TypeDesc) : Option Act1 :=
  match u with
  | .bool => S (sBinB (cond neg .neq .eql) x y)
  | .pointer e => cond (isNilConst .p y) (S (sEqn neg .p x)) (cond (isNilConst .p x) (S (sEqn neg .p y)) (match ty e with
    | some ei => cond (Nat.beq ei.size 0) none (H (hEqp neg x y))
    | none => none))
  | .slice _ => cond (isNilConst .s y) (S (sEqn neg .s x)) none
  | .map _ _ => cond (isNilConst .m y) (S (sEqn neg .m x)) none
  | .func .. => cond (isNilConst .f y) (S (sEqn neg .f x)) none
  | .struct _ | .array _ _ => match keyT ty kdepth t with
    | some k => S (sEqk neg k x y)
    | none => none
  | _ => none
noncomputable def compBuiltin (ty : Ty) (b : Builtin) (args : List Operand) (argTypes : List TypeId) : Option Act1 :=
  match b, args, argTypes with
  | .len, [x], [t] => match ty t with
    | some i => match i.under with
      | .array n _ => S (sLena n)
      | .string => S (sLens x)
      | .slice _ => S (sLen x)
      | .map _ _ => L (sLenm x)
      | _ => none
    | none => none
  | .append, [s, x], [t, u] => match ty t, ty u with
    | some i, some j => match i.under, j.under with
      | .slice e, .slice _ => match ty e with
        | some ei => cond (Nat.beq ei.size 0 || !Nat.beq (vcells ei.zero).length ei.size) none (H (hApp ei.size ei.bytes s x))
        | none => none
      | .slice e, .string => match ty e with
        | some ei => cond (Nat.beq ei.size 1 && Nat.beq (vcells ei.zero).length ei.size) (H (hApp ei.size ei.bytes s x)) none
        | none => none
      | _, _ => none
    | _, _ => none
  | .min, x :: xs, _ => S (sMm false x xs)
  | .max, x :: xs, _ => S (sMm true x xs)
  | .delete, [m, k], [t, _] => match ty t with
    | some i => match i.under with
      | .map kt _ => match keyT ty kdepth kt with
        | some k' => H (hDel k' m k)
        | none => none
      | _ => none
    | none => none
  | .clear, [s], [t] => match ty t with
    | some i => match i.under with
      | .slice e => match ty e with
        | some ei => cond (Nat.beq (vcells ei.zero).length ei.size) (H (hClr (vcells ei.zero) s)) none
        | none => none
      | _ => none
    | none => none
  | _, _, _ => none
/-- an operation, resolved -/
noncomputable def compOp (ty : Ty) (op : Op) : Option Act1 :=
  match op with
  | .move x | .assign x => S (sMov x)
  | .pick c a b => S (sPick c a b)
  | .alloc t => match ty t with
    | some i => S (sAlloc (vcells i.zero))
    | none => none
  | .box _ x => S (sBox x)
  | .build t parts => match ty t with
    | none => none
    | some i => match i.under with
      | .struct fs => match fs.toList.all fun f => (ty f.type).isSome, partsS ty fs parts.toList with
        | true, some ps => S (sBuild (vcells i.zero) ps)
        | _, _ => none
      | .array _ e => match ty e with
        | some ei => S (sBuild (vcells i.zero) (partsA ei.size parts.toList))
        | none => none
      | _ => none
  | .buildSlice t len parts => match ty t with
    | none => none
    | some i => match i.under with
      | .slice e => match ty e with
        | some ei => cond (Nat.ble (Nat.mul len ei.size) 16777216 && Nat.beq (vcells ei.zero).length ei.size) (S (sBslice (rep (vcells ei.zero) len) len (partsA ei.size parts.toList))) none
        | none => none
      | _ => none
  | .load t a => match ty t with
    | some i => L (sLoad i.agg i.cells a)
    | none => none
  | .store t a x => match ty t with
    | some i => H (hStore i.size a x)
    | none => none
  | .nilCheck x => S (sNilc x)
  | .binOp op t x y _ => match ty t with
    | none => none
    | some i => match i.under with
      | .int _ | .string => S (sBin op x y)
      | u => match op with
        | .eql => eqOp ty false t x y u
        | .neq => eqOp ty true t x y u
        | _ => none
  | .unOp op _ x => S (sUn op x)
  | .convert s d x => match ty s, ty d with
    | some si, some di => match si.under, di.under with
      | .int _, .int k => S (sCvi k x)
      | .string, .string => S (sCvss x)
      | .string, .slice e => match ty e with
        | some ei => match ei.under with
          | .int .u8 => S (sCvsb x)
          | _ => none
        | none => none
      | .slice e, .string => match ty e with
        | some ei => match ei.under with
          | .int .u8 => L (sCvbs x)
          | _ => none
        | none => none
      | .slice _, .slice e => match Nat.beq s d, ty e with
        | true, some ei => match ei.under with
          | .int .u8 => L (sMark x)
          | _ => none
        | _, _ => none
      | _, _ => none
    | _, _ => none
  | .sliceToArrayPointer t x => match ty t with
    | some i => match i.under with
      | .array n _ => S (sS2a n x)
      | _ => none
    | none => none
  | .makeFunc fn first captured => match fn with
    | .func f => S (sMkf f first.toList captured.toList)
    | _ => none
  | .makeMap _ none => S sMkmap
  | .makeSlice t l c => match ty t with
    | some i => match i.under with
      | .slice e => match ty e with
        | some ei => cond (Nat.beq (vcells ei.zero).length ei.size) (S (sMkslice (vcells ei.zero) ei.bytes l c)) none
        | none => none
      | _ => none
    | none => none
  | .slice t x lo hi mx => match cond mx.isSome hi.isSome true, ty t with
    | false, _ => none
    | true, some i => match i.under with
      | .slice e => match ty e with
        | some ei => S (sSlc ei.size x lo hi mx)
        | none => none
      | .string => match mx with
        | none => S (sSlstr x lo hi)
        | some _ => none
      | .array n e => match ty e with
        | some ei => S (sSlarr n ei.size x lo hi mx)
        | none => none
      | _ => none
    | true, none => none
  | .fieldAddr s x f => match ty s with
    | some i => match i.under with
      | .struct fs => match fs[f]? with
        | some fd => match ty fd.type with
          | some fi => cond (Nat.beq fi.size 0) none (S (sFld fd.offset x))
          | none => none
        | none => none
      | _ => none
    | none => none
  | .field t x f => match ty t with
    | some i => match i.under with
      | .struct fs => match fs[f]? with
        | some fd => match ty fd.type with
          | some fi => S (sFldv fi.agg fd.offset fi.cells x)
          | none => none
        | none => none
      | _ => none
    | none => none
  | .indexAddr t x ix => match ty t with
    | some i => match i.under with
      | .array n e => match ty e with
        | some ei => S (sIxa n ei.size x ix)
        | none => none
      | .slice e => match ty e with
        | some ei => S (sIxs ei.size x ix)
        | none => none
      | _ => none
    | none => none
  | .index t x ix => match ty t with
    | some i => match i.under with
      | .array n e => match ty e with
        | some ei => S (sIxv n ei.size ei.agg x ix)
        | none => none
      | .string => S (sIxstr x ix)
      | _ => none
    | none => none
  | .lookup t m k ok => match ty t with
    | some i => match i.under with
      | .map kt e => match keyT ty kdepth kt, ty e with
        | some k', some ei => L (sLookup k' ei.zero ok m k)
        | _, _ => none
      | _ => none
    | none => none
  | .mapUpdate t m k v | .insert t m k v => match ty t with
    | some i => match i.under with
      | .map kt _ => match keyT ty kdepth kt with
        | some k' => H (hMset k' m k v)
        | none => none
      | _ => none
    | none => none
  | .mapEntry t m k => match ty t with
    | some i => match i.under with
      | .map kt e => match keyT ty kdepth kt, ty e with
        | some k', some ei => H (hMent k' ei.zero m k)
        | _, _ => none
      | _ => none
    | none => none
  | .entryStore _ m s v => H (hEsto m s v)
  | .range t x => match ty t with
    | some i => match i.under with
      | .map _ _ => H (hRangem x)
      | .string => H (hRanges x)
      | _ => none
    | none => none
  | .next it isStr => cond isStr (H (hNexts it)) (H (hNextm it))
  | .entry it => H (hEntry it)
  | .extract x i => S (sExt x i)
  | .call { callee := .builtin b, args, argTypes } => compBuiltin ty b args.toList argTypes.toList
  | .call { callee := .value f, args, .. } => some (.call f args.toList)
  | _ => none

def dstOk (nt : Nat) : Option Nat → Bool
  | some d => Nat.blt d nt
  | none => true
noncomputable def compOper (ty : Ty) (nt : Nat) (ops : Array Oper) (i q : Nat) : Option BOper :=
  match ops[i]? with
  | none => none
  | some o =>
    match o.op.operands.all closedO, compOp ty o.op with
    | true, some op =>
      match dstOk nt o.dst with
      | true =>
        match o.guard with
        | none => some { idx := i, dst := o.dst, guard := none, op, q }
        | some (j, want) => match (ops[j]?).bind (·.dst) with
          | some d => some { idx := i, dst := o.dst, guard := some (d, want), op, q }
          | none => none
      | false => none
    | _, _ => none
/-- a region's canonical order: each operation that is not simple with its ancestors ahead of it; the rest behind -/
noncomputable def isW (ty : Ty) (o : Oper) : Bool := match compOp ty o.op with | some b => !b.simple | none => true
def canonW (b : Array Nat) : List Nat → List Nat → List Nat
  | [], done => done
  | w :: ws, done => canonW b ws (done ++ ((List.range w).filter fun i => (b.getD w 0).testBit i && !done.contains i) ++ [w])
noncomputable def compRegL (ty : Ty) (nt : Nat) (ops : Array Oper) (q : Nat → Nat) : List Nat → Option (List BOper)
  | [] => some []
  | i :: rest => match compOper ty nt ops i (q i), compRegL ty nt ops q rest with
    | some o, some l => some (o :: l)
    | _, _ => none
/-- no two alike -/
def ndN : List Nat → Bool
  | [] => true
  | x :: l => !inN l x && ndN l
/-- along a canonical order: what binds an operation lies behind; ahead of one that is not simple lies nothing but what is bound to -/
def walkOk (b : Array Nat) (ops : Array Oper) (ws : List Nat) : List Nat → List Nat → Bool
  | _, [] => true
  | done, i :: rest =>
    (match ops[i]? with
    | none => false
    | some o => o.after.all fun e => !Region.binds .any e || inN done e.on) &&
    (!inN ws i || done.all fun j => (b.getD i 0).testBit j) && walkOk b ops ws (i :: done) rest
/-- the looks that the theorem on regions asks for -/
def drawOk (b : Array Nat) (ops : Array Oper) (ws cn : List Nat) : Bool :=
  -- each stands there once
  Nat.beq cn.length ops.size && (List.range ops.size).all (fun i => inN cn i) && ndN cn &&
  -- what binds lies ahead in the text
  ((List.range ops.size).all fun i => match ops[i]? with
    | none => false
    | some o => o.after.all fun e => !Region.binds .any e || Nat.blt e.on i) &&
  walkOk b ops ws [] cn &&
  -- each slot is written once
  ndN (ops.toList.filterMap (·.dst)) &&
  -- who writes a slot that is read is ordered with who reads it
  ((List.range ops.size).all fun i => match ops[i]? with
    | none => false
    | some o => (o.looksAt ops).all fun t => (List.range ops.size).all fun j =>
      Nat.beq j i || (match ops[j]? with | some p => p.dst != some t | none => true) || (b.getD i 0).testBit j || (b.getD j 0).testBit i)
/-- so many that are not simple are surely ahead of it -/
def aheadOf (b : Array Nat) (ws cn : List Nat) (i : Nat) : Nat := (cn.filter fun w => inN ws w && (b.getD i 0).testBit w).length
noncomputable def compReg (ty : Ty) (nt : Nat) (ops : Array Oper) (draw : Bool) : Option BCode :=
  match draw with
  | false => (compRegL ty nt ops (fun _ => 0) (List.range ops.size)).map fun l => .reg ops.size l
  | true =>
    let b := Region.before ops
    let ws := (List.range ops.size).filter fun i => match ops[i]? with | some o => isW ty o | none => false
    let first := canonW b ws []
    let cn := first ++ (List.range ops.size).filter fun i => !inN first i
    if drawOk b ops ws cn then
      (compRegL ty nt ops (aheadOf b ws cn) cn).map fun l => .drawn ops.size l
    else none
noncomputable def compCode (ty : Ty) (nt : Nat) : Code → Option BCode
  | .skip => some .skip
  | .region _ ops draw => compReg ty nt ops draw
  | .seq a b => match compCode ty nt a, compCode ty nt b with
    | some x, some y => some (.seq x y)
    | _, _ => none
  | .cond c a b => match closedO c, compCode ty nt a, compCode ty nt b with
    | true, some x, some y => some (.cond c x y)
    | _, _, _ => none
  | .block id b => (compCode ty nt b).map (.block id)
  | .loop b => (compCode ty nt b).map .loop
  | .exit id => some (.exit id)
  | .ret => some .ret
  | _ => none
def compRes (ty : Ty) : List ResultVar → Option (List BRes)
  | [] => some []
  | .tmp t :: rs => (compRes ty rs).map (.tmp t :: ·)
  | .cell t ty' :: rs => match ty ty', compRes ty rs with
    | some i, some l => some (.cell t i.agg i.cells :: l)
    | _, _ => none
noncomputable def compFun (ty : Ty) (f : Func) : Option BFun :=
  match f.body with
  | none => none
  | some c => match compCode ty f.ntmps c, compRes ty f.results.toList with
    | some b, some r => some { body := b, ntmps := f.ntmps, res := r }
    | _, _ => none
/-- a type's facts, off the program -/
def tyOf (P : Program) (t : Nat) : Option TyI :=
  match P.underlying t, P.info? t with
  | some u, some i => match i.zero with
    | some z => match (vcells z).all closedV with
      | true => some { under := u, size := i.size, bytes := i.bytes, zero := z }
      | false => none
    | none => none
  | _, _ => none
end Go.AM

/- How the abstract machine's values, objects and heaps stand to the model's: an embedding of names into blocks; what is kept. -/
namespace Go.AM

/-! ### lists -/
inductive All2 {α β : Type} (R : α → β → Prop) : List α → List β → Prop
  | nil : All2 R [] []
  | cons {a b s t} : R a b → All2 R s t → All2 R (a :: s) (b :: t)
namespace All2
variable {α β : Type} {R S : α → β → Prop}
theorem length : ∀ {s : List α} {t : List β}, All2 R s t → s.length = t.length
  | _, _, .nil => rfl
  | _, _, .cons _ h => by simp [h.length]
theorem mono (hi : ∀ a b, R a b → S a b) : ∀ {s : List α} {t : List β}, All2 R s t → All2 S s t
  | _, _, .nil => .nil
  | _, _, .cons h1 h => .cons (hi _ _ h1) (h.mono hi)
theorem append : ∀ {s : List α} {t : List β} {s' : List α} {t' : List β}, All2 R s t → All2 R s' t' → All2 R (s ++ s') (t ++ t')
  | _, _, _, _, .nil, h => h
  | _, _, _, _, .cons h1 h, h' => .cons h1 (h.append h')
theorem get : ∀ {s : List α} {t : List β}, All2 R s t → ∀ {i : Nat} {a : α}, s[i]? = some a → ∃ b, t[i]? = some b ∧ R a b
  | _, _, .nil, i, a, h => by simp at h
  | _, _, .cons h1 h, 0, a, e => by simp at e; subst e; exact ⟨_, rfl, h1⟩
  | _, _, .cons h1 h, i + 1, a, e => by simp at e; obtain ⟨b, hb, hr⟩ := h.get e; exact ⟨b, by simpa using hb, hr⟩
theorem getR : ∀ {s : List α} {t : List β}, All2 R s t → ∀ {i : Nat} {b : β}, t[i]? = some b → ∃ a, s[i]? = some a ∧ R a b
  | _, _, .nil, i, a, h => by simp at h
  | _, _, .cons h1 h, 0, a, e => by simp at e; subst e; exact ⟨_, rfl, h1⟩
  | _, _, .cons h1 h, i + 1, a, e => by simp at e; obtain ⟨b, hb, hr⟩ := h.getR e; exact ⟨b, by simpa using hb, hr⟩
theorem of_get {s : List α} {t : List β} (hl : s.length = t.length) (h : ∀ (i : Nat) a b, s[i]? = some a → t[i]? = some b → R a b) : All2 R s t := by
  induction s generalizing t with
  | nil => cases t with
    | nil => exact .nil
    | cons b t => simp at hl
  | cons a s ih => cases t with
    | nil => simp at hl
    | cons b t => exact .cons (h 0 a b rfl rfl) (ih (by simpa using hl) (fun i x y hx hy => h (i + 1) x y (by simpa using hx) (by simpa using hy)))
theorem take : ∀ {s : List α} {t : List β} (n : Nat), All2 R s t → All2 R (s.take n) (t.take n)
  | _, _, 0, _ => by simp; exact .nil
  | _, _, _ + 1, .nil => by simp; exact .nil
  | _, _, n + 1, .cons h1 h => by simp; exact .cons h1 (h.take n)
theorem drop : ∀ {s : List α} {t : List β} (n : Nat), All2 R s t → All2 R (s.drop n) (t.drop n)
  | _, _, 0, h => by simpa using h
  | _, _, _ + 1, .nil => by simp; exact .nil
  | _, _, n + 1, .cons _ h => by simp; exact h.drop n
theorem snoc {s : List α} {t : List β} {a : α} {b : β} (h : All2 R s t) (h1 : R a b) : All2 R (s ++ [a]) (t ++ [b]) := h.append (.cons h1 .nil)
theorem of_map {γ : Type} {f : γ → α} {g : γ → β} : ∀ (l : List γ), (∀ x ∈ l, R (f x) (g x)) → All2 R (l.map f) (l.map g)
  | [], _ => .nil
  | x :: l, h => .cons (h x (by simp)) (of_map l (fun y hy => h y (by simp [hy])))
end All2

/-! ### the machine's list functions -/
theorem takeN_eq (n : Nat) : ∀ (l r : List Value), takeN n l = some r → n ≤ l.length ∧ r = l.take n := by
  induction n with
  | zero => intro l r h; cases h; simp
  | succ n ih =>
    intro l r h
    cases l with
    | nil => cases h
    | cons x l =>
      have h' : (match takeN n l with | some r => some (x :: r) | none => none) = some r := h
      cases ht : takeN n l with
      | none => rw [ht] at h'; cases h'
      | some q =>
        rw [ht] at h'
        obtain ⟨h1, h2⟩ := ih l q ht
        injection h' with h'
        subst h'; subst h2
        simp; omega
theorem subO_eq (off : Nat) : ∀ (n : Nat) (l r : List Value), subO off n l = some r → off + n ≤ l.length ∧ r = (l.drop off).take n := by
  induction off with
  | zero => intro n l r h; have := takeN_eq n l r h; simpa using this
  | succ off ih =>
    intro n l r h
    cases l with
    | nil => cases h
    | cons x l =>
      have h' : subO off n l = some r := h
      obtain ⟨h1, h2⟩ := ih n l r h'
      simp; exact ⟨by omega, h2⟩
theorem overO_eq (vs : List Value) : ∀ (l r : List Value), overO vs l = some r → vs.length ≤ l.length ∧ r = vs ++ l.drop vs.length := by
  induction vs with
  | nil => intro l r h; cases h; simp
  | cons v vs ih =>
    intro l r h
    cases l with
    | nil => cases h
    | cons x l =>
      have h' : (match overO vs l with | some r => some (v :: r) | none => none) = some r := h
      cases ht : overO vs l with
      | none => rw [ht] at h'; cases h'
      | some q =>
        rw [ht] at h'
        obtain ⟨h1, h2⟩ := ih l q ht
        injection h' with h'
        subst h'; subst h2
        simp; omega
theorem spliceO_eq (off : Nat) : ∀ (vs l r : List Value), spliceO off vs l = some r → off + vs.length ≤ l.length ∧ r = l.take off ++ vs ++ l.drop (off + vs.length) := by
  induction off with
  | zero => intro vs l r h; have := overO_eq vs l r h; simpa using this
  | succ off ih =>
    intro vs l r h
    cases l with
    | nil => cases h
    | cons x l =>
      have h' : (match spliceO off vs l with | some r => some (x :: r) | none => none) = some r := h
      cases ht : spliceO off vs l with
      | none => rw [ht] at h'; cases h'
      | some q =>
        rw [ht] at h'
        obtain ⟨h1, h2⟩ := ih vs l q ht
        injection h' with h'
        subst h'; subst h2
        simp
        refine ⟨by omega, ?_⟩
        rw [show off + 1 + vs.length = (off + vs.length) + 1 by omega, List.drop_succ_cons]
theorem nth_eq (l : List Value) (n : Nat) : nth l n = l[n]? := by
  induction n generalizing l with
  | zero => cases l <;> rfl
  | succ n ih => cases l with
    | nil => rfl
    | cons x l => rw [List.getElem?_cons_succ]; exact ih l
theorem spliceO_get {off : Nat} {vs l r : List Value} (h : spliceO off vs l = some r) (j : Nat) :
    r[j]? = if off ≤ j ∧ j < off + vs.length then vs[j - off]? else l[j]? := by
  obtain ⟨h1, rfl⟩ := spliceO_eq off vs l r h
  by_cases hj : j < off
  · rw [if_neg (by omega), List.append_assoc, List.getElem?_append_left (by simp; omega), List.getElem?_take_of_lt hj]
  · by_cases hj2 : j < off + vs.length
    · rw [if_pos ⟨by omega, hj2⟩, List.getElem?_append_left (by simp; omega), List.getElem?_append_right (by simp; omega)]
      congr 1; simp; omega
    · rw [if_neg (by omega), List.getElem?_append_right (by simp; omega), List.getElem?_drop]
      congr 1; simp; omega
theorem spliceO_length {off : Nat} {vs l r : List Value} (h : spliceO off vs l = some r) : r.length = l.length ∧ off + vs.length ≤ l.length := by
  obtain ⟨h1, rfl⟩ := spliceO_eq off vs l r h
  simp; omega

/-! ### embeddings, values -/
/-- where an object lies: its block, the first cell, how many cells the block has, how many an element -/
structure Loc where
  blk : Nat
  base : Nat
  size : Nat
  esz : Nat
abbrev Emb := Nat → Option Loc
inductive VRel (ι : Emb) : Value → Value → Prop
  | bool (b : Bool) : VRel ι (.bool b) (.bool b)
  | int (k : IntKind) (n : Int) : VRel ι (.int k n) (.int k n)
  | string (s : ByteArray) : VRel ι (.string s) (.string s)
  | ptrNil : VRel ι (.pointer none) (.pointer none)
  | ptr (n off : Nat) (l : Loc) (h : ι n = some l) : VRel ι (.pointer (some ⟨n, off, none⟩)) (.pointer (some ⟨l.blk, l.base + off, none⟩))
  | slNil (len cap : Nat) : VRel ι (.slice none len cap) (.slice none len cap)
  | slEx (n off len cap : Nat) (l : Loc) (h : ι n = some l) : VRel ι (.slice (some ⟨n, off, none⟩) len cap) (.slice (some ⟨l.blk, l.base + off, none⟩) len cap)
  | slGr (n off len cap cap' : Nat) (l : Loc) (h : ι n = some l) (hlen : len ≤ cap) (hc : cap ≤ cap') (hs : l.base + off + cap' * l.esz ≤ l.size) :
      VRel ι (.slice (some ⟨n, off, some (l.esz + 1)⟩) len cap) (.slice (some ⟨l.blk, l.base + off, none⟩) len cap')
  | slEmp (a : Addr) (cap : Nat) : VRel ι (.slice (some ⟨0, 0, some 0⟩) 0 0) (.slice (some a) 0 cap)
  | mapNil : VRel ι (.map none) (.map none)
  | map (n : Nat) (l : Loc) (h : ι n = some l) : VRel ι (.map (some n)) (.map (some l.blk))
  | nilFunc : VRel ι .nilFunc .nilFunc
  | nilIface : VRel ι .nilIface .nilIface
  | yield (l : Nat) : VRel ι (.func (.yield l) #[] #[]) (.func (.yield l) #[] #[])
  | func (f : Nat) (a b a' b' : Array Value) (ha : a.size = a'.size) (hb : b.size = b'.size)
      (ra : ∀ (i : Nat) v v', a[i]? = some v → a'[i]? = some v' → VRel ι v v') (rb : ∀ (i : Nat) v v', b[i]? = some v → b'[i]? = some v' → VRel ι v v') :
      VRel ι (.func (.func f) a b) (.func (.func f) a' b')
  | agg (a a' : Array Value) (ha : a.size = a'.size) (ra : ∀ (i : Nat) v v', a[i]? = some v → a'[i]? = some v' → VRel ι v v') : VRel ι (.agg a) (.agg a')
  | tuple (a a' : Array Value) (ha : a.size = a'.size) (ra : ∀ (i : Nat) v v', a[i]? = some v → a'[i]? = some v' → VRel ι v v') : VRel ι (.tuple a) (.tuple a')
def Emb.le (ι ι' : Emb) : Prop := ∀ n l, ι n = some l → ι' n = some l
theorem Emb.le_refl (ι : Emb) : ι.le ι := fun _ _ h => h
theorem Emb.le_trans {ι ι' ι'' : Emb} (h : ι.le ι') (h' : ι'.le ι'') : ι.le ι'' := fun n l e => h' n l (h n l e)
theorem VRel.mono {ι ι' : Emb} (hi : ι.le ι') {v v' : Value} (h : VRel ι v v') : VRel ι' v v' := by
  induction h with
  | bool b => exact .bool _
  | int k n => exact .int k n
  | string s => exact .string s
  | ptrNil => exact .ptrNil
  | ptr n off l h => exact .ptr n off l (hi n l h)
  | slNil len cap => exact .slNil len cap
  | slEx n off len cap l h => exact .slEx n off len cap l (hi n l h)
  | slGr n off len cap cap' l h hlen hc hs => exact .slGr n off len cap cap' l (hi n l h) hlen hc hs
  | slEmp a cap => exact .slEmp a cap
  | mapNil => exact .mapNil
  | map n l h => exact .map n l (hi n l h)
  | nilFunc => exact .nilFunc
  | nilIface => exact .nilIface
  | yield l => exact .yield l
  | func f a b a' b' ha hb ra rb iha ihb => exact .func f a b a' b' ha hb iha ihb
  | agg a a' ha ra ih => exact .agg a a' ha ih
  | tuple a a' ha ra ih => exact .tuple a a' ha ih
abbrev LRel (ι : Emb) : List Value → List Value → Prop := All2 (VRel ι)
theorem LRel.mono {ι ι' : Emb} (hi : ι.le ι') {s t : List Value} (h : LRel ι s t) : LRel ι' s t := All2.mono (fun _ _ => VRel.mono hi) h
theorem LRel.of_arr {ι : Emb} {a a' : Array Value} (ha : a.size = a'.size) (ra : ∀ (i : Nat) v v', a[i]? = some v → a'[i]? = some v' → VRel ι v v') : LRel ι a.toList a'.toList :=
  All2.of_get (by simpa using ha) (fun i x y hx hy => ra i x y (by simpa using hx) (by simpa using hy))
theorem LRel.arr {ι : Emb} {a a' : Array Value} (h : LRel ι a.toList a'.toList) : a.size = a'.size ∧ ∀ (i : Nat) v v', a[i]? = some v → a'[i]? = some v' → VRel ι v v' := by
  refine ⟨by simpa using h.length, fun i v v' hv hv' => ?_⟩
  obtain ⟨b, hb, hr⟩ := h.get (i := i) (a := v) (by simpa using hv)
  rw [Array.getElem?_toList, hv'] at hb
  cases hb; exact hr
theorem VRel.mkAgg {ι : Emb} {s t : List Value} (h : LRel ι s t) : VRel ι (.agg ⟨s⟩) (.agg ⟨t⟩) :=
  let ⟨h1, h2⟩ := LRel.arr (a := ⟨s⟩) (a' := ⟨t⟩) h; .agg _ _ h1 h2
theorem VRel.mkTuple {ι : Emb} {s t : List Value} (h : LRel ι s t) : VRel ι (.tuple ⟨s⟩) (.tuple ⟨t⟩) :=
  let ⟨h1, h2⟩ := LRel.arr (a := ⟨s⟩) (a' := ⟨t⟩) h; .tuple _ _ h1 h2
theorem VRel.mkFunc {ι : Emb} {f : Nat} {s t s' t' : List Value} (h : LRel ι s t) (h' : LRel ι s' t') : VRel ι (.func (.func f) ⟨s⟩ ⟨s'⟩) (.func (.func f) ⟨t⟩ ⟨t'⟩) :=
  let ⟨h1, h2⟩ := LRel.arr (a := ⟨s⟩) (a' := ⟨t⟩) h; let ⟨h3, h4⟩ := LRel.arr (a := ⟨s'⟩) (a' := ⟨t'⟩) h'; .func _ _ _ _ _ h1 h3 h2 h4
theorem VRel.undef (ι : Emb) : VRel ι undef undef := VRel.mkTuple (s := []) (t := []) .nil
/-- the cells of a value -/
theorem VRel.cells {ι : Emb} {v v' : Value} (h : VRel ι v v') : LRel ι (vcells v) v'.cells.toList := by
  cases h with
  | agg a a' ha ra => exact LRel.of_arr ha ra
  | bool b => exact .cons (.bool b) .nil
  | int k n => exact .cons (.int k n) .nil
  | string s => exact .cons (.string s) .nil
  | ptrNil => exact .cons .ptrNil .nil
  | ptr n off l h => exact .cons (.ptr n off l h) .nil
  | slNil len cap => exact .cons (.slNil len cap) .nil
  | slEx n off len cap l h => exact .cons (.slEx n off len cap l h) .nil
  | slGr n off len cap cap' l h hlen hc hs => exact .cons (.slGr n off len cap cap' l h hlen hc hs) .nil
  | slEmp a cap => exact .cons (.slEmp a cap) .nil
  | mapNil => exact .cons .mapNil .nil
  | map n l h => exact .cons (.map n l h) .nil
  | nilFunc => exact .cons .nilFunc .nil
  | nilIface => exact .cons .nilIface .nil
  | yield l => exact .cons (.yield l) .nil
  | func f a b a' b' ha hb ra rb => exact .cons (.func f a b a' b' ha hb ra rb) .nil
  | tuple a a' ha ra => exact .cons (.tuple a a' ha ra) .nil

/-! ### objects -/
abbrev Own := Nat → Nat → Prop
/-- what an opaque object of a number is, in a world, at a place, with the blocks that it has -/
abbrev Opq := Nat → World → Loc → (Nat → Prop) → Prop
def Opq.local (X : Opq) : Prop := ∀ k w w' l own, X k w l own → (∀ b, own b → w'.heap[b]? = w.heap[b]?) → X k w' l own
def ERel (ι : Emb) (e : MEnt) (e' : MapEntry) : Prop := VRel ι e.key e'.key ∧ VRel ι e.val e'.val ∧ e.born = e'.born
def KRel (l : Loc) (n : Nat) (fr : Nat × Nat) : Kind → Prop
  | .var => fr = (0, 0) ∧ l.base = 0 ∧ n = l.size
  | .row => True
  | .grown e => l.esz = e
def ORel (X : Opq) (ι : Emb) (w : World) (l : Loc) (own : Nat → Prop) : AObj → Prop
  | .cells c k => (∀ b, own b ↔ b = l.blk) ∧ ∃ c' elem fr, w.heap[l.blk]? = some (.cells c' elem fr) ∧ c'.size = l.size ∧ l.base + c.length ≤ l.size ∧
      (fr = (0, 0) ∨ fr = (l.size, l.size + 1)) ∧ (∀ j v, c[j]? = some v → ∃ v', c'[l.base + j]? = some v' ∧ VRel ι v v') ∧ KRel l c.length fr k
  | .map es clock => (∀ b, own b ↔ b = l.blk) ∧ ∃ es', w.heap[l.blk]? = some (.map es' clock) ∧ All2 (ERel ι) es es'.toList
  | .miter m since seen stepped => (∀ b, own b ↔ b = l.blk) ∧ l.base = 0 ∧ ∃ m', w.heap[l.blk]? = some (.mapIter m' since seen.toArray stepped) ∧ VRel ι (.map m) (.map m')
  | .siter s pos => (∀ b, own b ↔ b = l.blk) ∧ l.base = 0 ∧ w.heap[l.blk]? = some (.stringIter s pos)
  | .opq k => X k w l own
theorem ERel.mono {ι ι' : Emb} (hi : ι.le ι') {e : MEnt} {e' : MapEntry} (h : ERel ι e e') : ERel ι' e e' := ⟨h.1.mono hi, h.2.1.mono hi, h.2.2⟩
theorem ORel.mono {X : Opq} (hX : X.local) {ι ι' : Emb} (hi : ι.le ι') {w w' : World} {l : Loc} {own : Nat → Prop} {o : AObj} (h : ORel X ι w l own o)
    (hw : ∀ b, own b → w'.heap[b]? = w.heap[b]?) : ORel X ι' w' l own o := by
  cases o with
  | cells c k =>
    obtain ⟨ho, c', elem, fr, h1, h2, h3, h4, h5, h6⟩ := h
    exact ⟨ho, c', elem, fr, by rw [hw _ ((ho _).2 rfl)]; exact h1, h2, h3, h4, fun j v e => let ⟨v', a, r⟩ := h5 j v e; ⟨v', a, r.mono hi⟩, h6⟩
  | map es clock =>
    obtain ⟨ho, es', h1, h2⟩ := h
    exact ⟨ho, es', by rw [hw _ ((ho _).2 rfl)]; exact h1, h2.mono fun _ _ => ERel.mono hi⟩
  | miter m since seen stepped =>
    obtain ⟨ho, hb, m', h1, h2⟩ := h
    exact ⟨ho, hb, m', by rw [hw _ ((ho _).2 rfl)]; exact h1, h2.mono hi⟩
  | siter s pos =>
    obtain ⟨ho, hb, h1⟩ := h
    exact ⟨ho, hb, by rw [hw _ ((ho _).2 rfl)]; exact h1⟩
  | opq k => exact hX k w w' l own h hw

/-! ### heaps -/
def Heap.live (h : Heap) (n : Nat) : Prop := (h.get n).isSome = true
structure HRel (X : Opq) (ι : Emb) (ow : Own) (h : Heap) (w : World) : Prop where
  obj : ∀ n o, h.get n = some o → ∃ l, ι n = some l ∧ ORel X ι w l (ow n) o
  lt : ∀ n b, h.live n → ow n b → b < w.heap.size
  dis : ∀ n m b, h.live n → h.live m → ow n b → ow m b → n = m
  low : ∀ n, h.next ≤ n → ι n = none
/-- what is not owned stays; what is owned behind it was owned, or is new -/
structure Fr (ow : Own) (h : Heap) (w : World) (ow' : Own) (h' : Heap) (w' : World) : Prop where
  size : w.heap.size ≤ w'.heap.size
  keep : ∀ b, b < w.heap.size → (∀ n, h.live n → ¬ ow n b) → w'.heap[b]? = w.heap[b]?
  own : ∀ n b, h'.live n → ow' n b → b < w.heap.size → ∃ m, h.live m ∧ ow m b
  os : w'.os = w.os
  out : w'.output = w.output
  nxt : h.next ≤ h'.next
  old : ∀ n, n < h.next → h'.live n → h.live n
/-- an embedding that goes on: new names from nx on alone -/
def Emb.ext (ι ι' : Emb) (nx : Nat) : Prop := ι.le ι' ∧ ∀ n, n < nx → ι' n = ι n
theorem Emb.ext_refl (ι : Emb) (nx : Nat) : ι.ext ι nx := ⟨ι.le_refl, fun _ _ => rfl⟩
theorem Emb.ext_trans {ι ι' ι'' : Emb} {nx nx' : Nat} (h : ι.ext ι' nx) (hn : nx ≤ nx') (h' : ι'.ext ι'' nx') : ι.ext ι'' nx :=
  ⟨Emb.le_trans h.1 h'.1, fun n hn' => by rw [h'.2 n (by omega), h.2 n hn']⟩
theorem Fr.refl (ow : Own) (h : Heap) (w : World) : Fr ow h w ow h w :=
  ⟨Nat.le_refl _, fun _ _ _ => rfl, fun n _ hn ho _ => ⟨n, hn, ho⟩, rfl, rfl, Nat.le_refl _, fun _ _ h => h⟩
theorem Fr.trans {ow ow' ow'' : Own} {h h' h'' : Heap} {w w' w'' : World} (a : Fr ow h w ow' h' w') (b : Fr ow' h' w' ow'' h'' w'') : Fr ow h w ow'' h'' w'' where
  size := Nat.le_trans a.size b.size
  keep := fun k hk hn => by
    rw [b.keep k (Nat.lt_of_lt_of_le hk a.size) (fun n hl ho => by
      obtain ⟨m, hm, hom⟩ := a.own n k hl ho hk
      exact hn m hm hom), a.keep k hk hn]
  own := fun n k hl ho hk => by
    obtain ⟨m, hm, hom⟩ := b.own n k hl ho (Nat.lt_of_lt_of_le hk a.size)
    exact a.own m k hm hom hk
  os := by rw [b.os, a.os]
  out := by rw [b.out, a.out]
  nxt := Nat.le_trans a.nxt b.nxt
  old := fun n hn hl => a.old n hn (b.old n (Nat.lt_of_lt_of_le hn a.nxt) hl)
theorem Heap.get_set (h : Heap) (n m : Nat) (o : AObj) : (h.set n o).get m = if n = m then some o else h.get m := Tr.get_set _ _ _ _
theorem Heap.get_rem (h : Heap) (n m : Nat) : (h.rem n).get m = if n = m then none else h.get m := Tr.get_rem _ _ _
theorem Heap.get_new (h : Heap) (m : Nat) (o : AObj) : (h.new o).get m = if h.next = m then some o else h.get m := Tr.get_set _ _ _ _
theorem HRel.not_live {X : Opq} {ι : Emb} {ow : Own} {h : Heap} {w : World} (H : HRel X ι ow h w) {n : Nat} (hn : h.next ≤ n) : h.get n = none := by
  cases e : h.get n with
  | none => rfl
  | some o => obtain ⟨l, hl, _⟩ := H.obj n o e; rw [H.low n hn] at hl; cases hl
/-- a world that is as it was wherever something is owned -/
theorem HRel.world {X : Opq} (hX : X.local) {ι : Emb} {ow : Own} {h : Heap} {w w' : World} (H : HRel X ι ow h w) (hs : w.heap.size ≤ w'.heap.size)
    (hw : ∀ n b, h.live n → ow n b → w'.heap[b]? = w.heap[b]?) : HRel X ι ow h w' where
  obj := fun n o e => let ⟨l, hl, ho⟩ := H.obj n o e; ⟨l, hl, ho.mono hX ι.le_refl (fun b hb => hw n b (by simp [Heap.live, e]) hb)⟩
  lt := fun n b hl ho => Nat.lt_of_lt_of_le (H.lt n b hl ho) hs
  dis := H.dis
  low := H.low
end Go.AM

/- What the model's loads, stores and makings do to a world that stands so to a heap. -/
namespace Go.AM
variable {P : Program}

theorem addr_add (b off i : Nat) : (⟨b, off, none⟩ : Addr).add i = ⟨b, off + i, none⟩ := by unfold Addr.add; split <;> simp_all
theorem cell_row {w : World} {b off : Nat} {c : Array Value} {t : TypeId} {fr : Nat × Nat} (hg : w.heap[b]? = some (.cells c t fr)) : w.cell? ⟨b, off, none⟩ = c[off]? := by
  simp [World.cell?, hg]
theorem run_loads {w : World} {b : Nat} {c : Array Value} {t : TypeId} {fr : Nat × Nat} (hg : w.heap[b]? = some (.cells c t fr)) (off n : Nat) (h : off + n ≤ c.size) :
    (loadCells ⟨b, off, none⟩ n).run P w = .ok ((c.toList.drop off).take n).toArray w := by
  have hl : ((c.toList.drop off).take n).length = n := by simp; omega
  have h0 := run_loadCells_list (P := P) w ⟨b, off, none⟩ ((c.toList.drop off).take n) (fun j v e => by
    rw [addr_add, cell_row hg]
    have hj : j < n := by have := (List.getElem?_eq_some_iff.1 e).1; omega
    rw [List.getElem?_take_of_lt hj, List.getElem?_drop] at e
    simpa using e)
  rwa [hl] at h0
/-- no cell of a block is frozen -/
def soft (fr : Nat × Nat) (n : Nat) : Prop := fr = (0, 0) ∨ fr = (n, n + 1)
theorem soft_cell {w : World} {b off : Nat} {c : Array Value} {t : TypeId} {fr : Nat × Nat} (hg : w.heap[b]? = some (.cells c t fr)) (hf : soft fr c.size) (h : off < c.size) : w.frozen? ⟨b, off, none⟩ = false := by
  rcases hf with rfl | rfl <;> simp [World.frozen?, hg]
  intro h2; omega
theorem run_stores (b o : Nat) (t : TypeId) (fr : Nat × Nat) : ∀ (vs : List Value) (i : Nat) (cur : Array Value) (w : World), w.heap[b]? = some (.cells cur t fr) → soft fr cur.size → o + i + vs.length ≤ cur.size →
    (∀ v ∈ vs, v.oneCell' = true) →
    (storeCells ⟨b, o, none⟩ vs i).run P w = .ok () (w.setRow b (cur.toList.take (o + i) ++ vs ++ cur.toList.drop (o + i + vs.length)).toArray)
  | [], i, cur, w, hg, _, _, _ => by
    simp only [storeCells, List.append_nil, List.length_nil, Nat.add_zero, List.take_append_drop, Array.toArray_toList]
    rw [setRow_self w b cur t fr hg]
    rfl
  | v :: rest, i, cur, w, hg, hf, hl, h1 => by
    have hi : o + i < cur.size := by simp at hl; omega
    have hcell : w.cell? ⟨b, o + i, none⟩ = some cur[o + i] := by simp [World.cell?, hg, hi]
    have hfro : w.frozen? ⟨b, o + i, none⟩ = false := soft_cell hg hf hi
    have hst : (store ((⟨b, o, none⟩ : Addr).add i) v).run P w = .ok () (w.setRow b (cur.setIfInBounds (o + i) v)) := by
      rw [addr_add, run_store P w _ v _ (h1 v (by simp)), hcell]
      simp [hfro, setCell_eq_setRow w b (o + i) cur t fr v hg]
    have ih := run_stores b o t fr rest (i + 1) (cur.setIfInBounds (o + i) v) (w.setRow b (cur.setIfInBounds (o + i) v)) (setRow_heap w b cur _ t _ hg) (by simpa using hf) (by simp at hl ⊢; omega) (fun x hx => h1 x (by simp [hx]))
    simp only [storeCells, Sem.run_bind, hst, Result.andThen_ok, ih, setRow_setRow]
    congr 3
    have e := list_seg_step cur.toList (o + i) v rest (by simp at hl ⊢; omega)
    simpa [Array.toList_setIfInBounds, Nat.add_assoc] using e

/-! ### worlds -/
theorem setRow_other (w : World) (g b : Nat) (c : Array Value) (h : b ≠ g) : (w.setRow g c).heap[b]? = w.heap[b]? := by
  unfold World.setRow
  simp only [Array.getElem?_modify]
  rw [if_neg (fun e => h e.symm)]
theorem setRow_size (w : World) (g : Nat) (c : Array Value) : (w.setRow g c).heap.size = w.heap.size := by simp [World.setRow]

/-! ### heaps -/
section
variable {X : Opq} (hX : X.local) {ι : Emb} {ow : Own} {h : Heap} {w : World}
theorem Heap.live_set {h : Heap} {n m : Nat} {o o' : AObj} (hn : h.get n = some o) : (h.set n o').live m ↔ h.live m := by
  unfold Heap.live
  rw [Heap.get_set]
  by_cases e : n = m
  · subst e; simp [hn]
  · simp [e]
/-- an object that stays where it is turns -/
theorem HRel.turn (hX : X.local) (H : HRel X ι ow h w) {n : Nat} {o o' : AObj} {l : Loc} {w' : World} (hn : h.get n = some o) (hl : ι n = some l) (hs : w'.heap.size = w.heap.size)
    (hw : ∀ b, ¬ ow n b → w'.heap[b]? = w.heap[b]?) (ho : ORel X ι w' l (ow n) o') : HRel X ι ow (h.set n o') w' where
  obj := fun m p e => by
    rw [Heap.get_set] at e
    by_cases hm : n = m
    · subst hm; simp at e; subst e; exact ⟨l, hl, ho⟩
    · simp [hm] at e
      obtain ⟨lm, hlm, hom⟩ := H.obj m p e
      exact ⟨lm, hlm, hom.mono hX ι.le_refl (fun b hb => hw b (fun hnb => hm (H.dis n m b (by simp [Heap.live, hn]) (by simp [Heap.live, e]) hnb hb)))⟩
  lt := fun m b hm hb => by rw [hs]; exact H.lt m b ((Heap.live_set hn).1 hm) hb
  dis := fun m k b hm hk => H.dis m k b ((Heap.live_set hn).1 hm) ((Heap.live_set hn).1 hk)
  low := H.low
theorem Fr.turn {n : Nat} {o o' : AObj} {w' : World} (hn : h.get n = some o) (hs : w'.heap.size = w.heap.size)
    (hw : ∀ b, ¬ ow n b → w'.heap[b]? = w.heap[b]?) (hos : w'.os = w.os) (hout : w'.output = w.output) : Fr ow h w ow (h.set n o') w' where
  size := by omega
  keep := fun b _ hb => hw b (hb n (by simp [Heap.live, hn]))
  own := fun m b hm hb _ => ⟨m, (Heap.live_set hn).1 hm, hb⟩
  os := hos
  out := hout
  nxt := Nat.le_refl _
  old := fun m _ hm => (Heap.live_set hn).1 hm
def upd (ι : Emb) (n : Nat) (l : Loc) : Emb := fun m => if n = m then some l else ι m
def updO (ow : Own) (n : Nat) (B : Nat → Prop) : Own := fun m b => if n = m then B b else ow m b
theorem upd_le {n : Nat} {l : Loc} (hn : ι n = none) : ι.le (upd ι n l) := fun m k e => by
  unfold upd
  by_cases h : n = m
  · subst h; rw [hn] at e; cases e
  · simp [h, e]
theorem upd_same (ι : Emb) (n : Nat) (l : Loc) : upd ι n l n = some l := by simp [upd]
theorem upd_ne (ι : Emb) {n m : Nat} (l : Loc) (h : n ≠ m) : upd ι n l m = ι m := by simp [upd, h]
/-- an object is made: in a new block -/
theorem HRel.add (hX : X.local) (H : HRel X ι ow h w) {n : Nat} {o : AObj} {l : Loc} {w' : World} {ob : Obj} {h' : Heap} (hn : ι n = none) (hw : w'.heap = w.heap.push ob)
    (hg : ∀ m, h'.get m = if n = m then some o else h.get m) (hnx : n < h'.next) (hnx' : h.next ≤ h'.next)
    (ho : ORel X (upd ι n l) w' l (fun b => b = w.heap.size) o) : HRel X (upd ι n l) (updO ow n (fun b => b = w.heap.size)) h' w' where
  obj := fun m p e => by
    rw [hg] at e
    by_cases hm : n = m
    · subst hm; simp at e; subst e
      have : updO ow n (fun b => b = w.heap.size) n = fun b => b = w.heap.size := by funext b; simp [updO]
      exact ⟨l, upd_same _ _ _, by rw [this]; exact ho⟩
    · simp [hm] at e
      obtain ⟨lm, hlm, hom⟩ := H.obj m p e
      refine ⟨lm, by rw [upd_ne _ _ hm]; exact hlm, ?_⟩
      have : updO ow n (fun b => b = w.heap.size) m = ow m := by funext b; simp [updO, hm]
      rw [this]
      exact hom.mono hX (upd_le hn) (fun b hb => by
        have := H.lt m b (by simp [Heap.live, e]) hb
        rw [hw, Array.getElem?_push_lt this, Array.getElem?_eq_getElem this])
  lt := fun m b hm hb => by
    unfold updO at hb
    rw [hw, Array.size_push]
    by_cases e : n = m
    · simp [e] at hb; omega
    · simp [e] at hb
      have hl : h.live m := by unfold Heap.live at hm ⊢; rw [hg] at hm; simpa [e] using hm
      have := H.lt m b hl hb; omega
  dis := fun m k b hm hk hb hb' => by
    unfold updO at hb hb'
    have lv : ∀ j, h'.live j → n ≠ j → h.live j := fun j hj e => by unfold Heap.live at hj ⊢; rw [hg] at hj; simpa [e] using hj
    by_cases e : n = m <;> by_cases e' : n = k
    · exact e.symm.trans e'
    · simp [e] at hb
      simp [e'] at hb'
      have := H.lt k b (lv k hk e') hb'; omega
    · simp [e] at hb
      simp [e'] at hb'
      have := H.lt m b (lv m hm e) hb; omega
    · simp [e] at hb
      simp [e'] at hb'
      exact H.dis m k b (lv m hm e) (lv k hk e') hb hb'
  low := fun m hm => by rw [upd_ne _ _ (by omega)]; exact H.low m (by omega)
theorem Fr.add {n : Nat} {o : AObj} {w' : World} {ob : Obj} {h' : Heap} (hw : w'.heap = w.heap.push ob) (hos : w'.os = w.os) (hout : w'.output = w.output)
    (hg : ∀ m, h'.get m = if n = m then some o else h.get m) (hnx : h.next ≤ n) (hnx' : h.next ≤ h'.next) : Fr ow h w (updO ow n (fun b => b = w.heap.size)) h' w' where
  size := by rw [hw, Array.size_push]; omega
  keep := fun b hb _ => by rw [hw, Array.getElem?_push_lt hb, Array.getElem?_eq_getElem hb]
  own := fun m b hm hb hlt => by
    unfold updO at hb
    by_cases e : n = m
    · simp [e] at hb; omega
    · simp [e] at hb
      exact ⟨m, by unfold Heap.live at hm ⊢; rw [hg] at hm; simpa [e] using hm, hb⟩
  os := hos
  out := hout
  nxt := hnx'
  old := fun m hm hl => by unfold Heap.live at hl ⊢; rw [hg] at hl; simpa [show ¬ n = m by omega] using hl
end
end Go.AM

/- Each simple operation of the machine is the model's: numbers, strings, structs, addresses. -/
namespace Go.AM

/-! ### numbers -/
theorem eqI_eq (a b : Int) : eqI a b = (a == b) := by
  cases a with
  | ofNat a => cases b with
    | ofNat b =>
      by_cases h : a = b
      · subst h; simp [eqI]
      · rw [show eqI (Int.ofNat a) (Int.ofNat b) = Nat.beq a b from rfl, beq_ne h]
        symm; rw [beq_eq_false_iff_ne]; intro e; exact h (Int.ofNat.inj e)
    | negSucc b => rfl
  | negSucc a => cases b with
    | ofNat b => rfl
    | negSucc b =>
      by_cases h : a = b
      · subst h; simp [eqI]
      · rw [show eqI (Int.negSucc a) (Int.negSucc b) = Nat.beq a b from rfl, beq_ne h]
        symm; rw [beq_eq_false_iff_ne]; intro e; exact h (Int.negSucc.inj e)
theorem blt_eq (a b : Nat) : Nat.blt a b = decide (a < b) := by
  by_cases h : a < b
  · simp [h, Nat.blt_eq]
  · simp only [h, decide_false]
    cases e : Nat.blt a b with
    | false => rfl
    | true => rw [Nat.blt_eq] at e; exact absurd e h
theorem ble_eq (a b : Nat) : Nat.ble a b = decide (a ≤ b) := by
  by_cases h : a ≤ b
  · simp [h]
  · simp only [h, decide_false]
    cases e : Nat.ble a b with
    | false => rfl
    | true => exact absurd (Nat.le_of_ble_eq_true e) h
theorem blt_lt {a b : Nat} (e : Nat.blt a b = true) : a < b := by rw [Nat.blt_eq] at e; exact e
theorem ltI_eq (a b : Int) : ltI a b = decide (a < b) := by
  cases a with
  | ofNat a => cases b with
    | ofNat b =>
      rw [show ltI (Int.ofNat a) (Int.ofNat b) = Nat.blt a b from rfl, blt_eq]
      congr 1; simp
    | negSucc b =>
      rw [show ltI (Int.ofNat a) (Int.negSucc b) = false from rfl]
      symm; rw [decide_eq_false_iff_not]; intro h
      have h1 : (0 : Int) ≤ Int.ofNat a := Int.natCast_nonneg a
      have h2 := Int.negSucc_lt_zero b
      omega
  | negSucc a => cases b with
    | ofNat b =>
      rw [show ltI (Int.negSucc a) (Int.ofNat b) = true from rfl]
      symm; rw [decide_eq_true_iff]
      have h1 : (0 : Int) ≤ Int.ofNat b := Int.natCast_nonneg b
      have h2 := Int.negSucc_lt_zero a
      omega
    | negSucc b =>
      rw [show ltI (Int.negSucc a) (Int.negSucc b) = Nat.blt b a from rfl, blt_eq]
      congr 1
      apply propext
      constructor
      · intro h; omega
      · intro h; omega
theorem eqK_eq {a b : IntKind} : eqK a b = true ↔ a = b := by cases a <;> cases b <;> simp [eqK]
theorem topK_max (k : IntKind) : (topK k : Int) = k.max + 1 := by cases k <;> rfl
theorem wrapF_eq (k : IntKind) (n : Int) : wrapF k n = k.wrap n := by
  cases n with
  | ofNat m =>
    show (match Nat.blt m (topK k) with | true => Int.ofNat m | false => k.wrap (Int.ofNat m)) = _
    cases e : Nat.blt m (topK k) with
    | false => rfl
    | true =>
      have h := blt_lt e
      have h0 : (Int.ofNat m : Int) = (m : Int) := rfl
      simp only [h0]
      cases k with
      | i8 => have h : m < 128 := h; exact (IntWalk.i8_in _ ⟨by omega, by omega⟩).symm
      | i16 => have h : m < 32768 := h; exact (IntWalk.i16_in _ ⟨by omega, by omega⟩).symm
      | i32 => have h : m < 2147483648 := h; exact (IntWalk.i32_in _ ⟨by omega, by omega⟩).symm
      | i64 => have h : m < 9223372036854775808 := h; exact (IntWalk.i64_in _ ⟨by omega, by omega⟩).symm
      | u8 => have h : m < 256 := h; exact (IntWalk.u8_in _ ⟨by omega, by omega⟩).symm
      | u16 => have h : m < 65536 := h; exact (IntWalk.u16_in _ ⟨by omega, by omega⟩).symm
      | u32 => have h : m < 4294967296 := h; exact (IntWalk.u32_in _ ⟨by omega, by omega⟩).symm
      | u64 => have h : m < 18446744073709551616 := h; exact (IntWalk.u64_in _ ⟨by omega, by omega⟩).symm
  | negSucc m =>
    show (match k.signed && Nat.blt m (topK k) with | true => Int.negSucc m | false => k.wrap (Int.negSucc m)) = _
    cases e : (k.signed && Nat.blt m (topK k)) with
    | false => rfl
    | true =>
      rw [Bool.and_eq_true] at e
      have h := blt_lt e.2
      have h0 : (Int.negSucc m : Int) = -((m : Int) + 1) := Int.negSucc_eq m
      simp only [h0]
      cases k with
      | i8 => have h : m < 128 := h; exact (IntWalk.i8_in _ ⟨by omega, by omega⟩).symm
      | i16 => have h : m < 32768 := h; exact (IntWalk.i16_in _ ⟨by omega, by omega⟩).symm
      | i32 => have h : m < 2147483648 := h; exact (IntWalk.i32_in _ ⟨by omega, by omega⟩).symm
      | i64 => have h : m < 9223372036854775808 := h; exact (IntWalk.i64_in _ ⟨by omega, by omega⟩).symm
      | u8 => exact absurd e.1 (by decide)
      | u16 => exact absurd e.1 (by decide)
      | u32 => exact absurd e.1 (by decide)
      | u64 => exact absurd e.1 (by decide)

/-! ### strings -/
theorem eqBs_eq : ∀ (a b : List UInt8), eqBs a b = (a == b)
  | [], [] => rfl
  | [], _ :: _ => rfl
  | _ :: _, [] => rfl
  | a :: s, b :: t => by
    simp only [eqBs, eqBs_eq s t, List.cons_beq_cons]
    congr 1
    by_cases h : a = b
    · subst h; simp
    · have : ¬ a.toNat = b.toNat := fun e => h (UInt8.toNat_inj.1 e)
      rw [beq_ne this]; symm; rw [beq_eq_false_iff_ne]; exact h
theorem eqStr_eq (a b : ByteArray) : eqStr a b = (a.data.toList == b.data.toList) := eqBs_eq _ _
theorem bytes_toList_go (d : Array UInt8) : ∀ (n i : Nat) (r : List UInt8), d.size - i = n → ByteArray.toList.loop ⟨d⟩ i r = r.reverse ++ d.toList.drop i := by
  intro n
  induction n with
  | zero =>
    intro i r h
    unfold ByteArray.toList.loop
    have : ¬ i < (⟨d⟩ : ByteArray).size := by show ¬ i < d.size; omega
    simp only [this, if_false]
    rw [List.drop_of_length_le (by simp; omega)]; simp
  | succ n ih =>
    intro i r h
    unfold ByteArray.toList.loop
    have hi : i < d.size := by omega
    have : i < (⟨d⟩ : ByteArray).size := hi
    simp only [this, if_true]
    rw [ih (i + 1) _ (by omega)]
    rw [List.drop_eq_getElem_cons (i := i) (by simpa using hi)]
    have e : (⟨d⟩ : ByteArray).get! i = d[i] := by
      show d[i]! = d[i]
      exact getElem!_pos d i hi
    rw [e]; simp
theorem toList_eq (b : ByteArray) : b.toList = b.data.toList := by
  cases b with
  | mk d =>
    unfold ByteArray.toList
    rw [bytes_toList_go d _ 0 [] rfl]; simp
theorem eqStr_toList (a b : ByteArray) : eqStr a b = (a.toList == b.toList) := by rw [eqStr_eq, toList_eq, toList_eq]
end Go.AM

/- Each simple operation of the machine is the model's. -/
namespace Go.AM
variable {P : Program}

structure TF (P : Program) (t : Nat) (i : TyI) : Prop where
  u : P.underlying t = some i.under
  inf : ∃ x, P.info? t = some x ∧ x.size = i.size ∧ x.bytes = i.bytes ∧ x.zero = some i.zero
  cl : (vcells i.zero).all closedV = true
theorem TF.of {t : Nat} {i : TyI} (h : tyOf P t = some i) : TF P t i := by
  unfold tyOf at h
  cases hu : P.underlying t with
  | none => rw [hu] at h; cases h
  | some u =>
    cases hi : P.info? t with
    | none => rw [hu, hi] at h; cases h
    | some x =>
      rw [hu, hi] at h
      dsimp only at h
      cases hz : x.zero with
      | none => rw [hz] at h; cases h
      | some z =>
        rw [hz] at h
        dsimp only at h
        cases hc : (vcells z).all closedV with
        | false => rw [hc] at h; cases h
        | true =>
          rw [hc] at h
          cases h
          exact ⟨hu, ⟨x, hi, rfl, rfl, hz⟩, hc⟩
section
variable {t : Nat} {i : TyI} (f : TF P t i) (w : World)
include f
theorem TF.under : (underlying t).run P w = .ok i.under w := by simp [underlying, f.u]
theorem TF.size : (sizeOf t).run P w = .ok i.size w := by obtain ⟨x, hx, hs, _⟩ := f.inf; simp [sizeOf, typeInfo, hx, hs]
theorem TF.zero : (zeroValue t).run P w = .ok i.zero w := by obtain ⟨x, hx, _, _, hz⟩ := f.inf; simp [zeroValue, typeInfo, hx, hz]
theorem TF.agg : (isAgg t).run P w = .ok i.agg w := by
  simp only [isAgg, Sem.run_bind, f.under, Result.andThen]
  unfold TyI.agg
  cases i.under <;> rfl
theorem TF.info : ∃ x, (typeInfo t).run P w = .ok x w ∧ x.size = i.size ∧ x.bytes = i.bytes := by
  obtain ⟨x, hx, hs, hb, _⟩ := f.inf
  exact ⟨x, by simp [typeInfo, hx], hs, hb⟩
end
theorem VRel.closed {ι : Emb} {v : Value} (h : closedV v = true) : VRel ι v v := by
  cases v with
  | bool b => exact .bool b
  | int k n => exact .int k n
  | string s => exact .string s
  | pointer a => cases a with
    | none => exact .ptrNil
    | some a => cases h
  | slice a l c => cases a with
    | none => exact .slNil l c
    | some a => cases h
  | map a => cases a with
    | none => exact .mapNil
    | some a => cases h
  | nilFunc => exact .nilFunc
  | nilIface => exact .nilIface
  | _ => cases h
theorem LRel.closed {ι : Emb} : ∀ {l : List Value}, l.all closedV = true → LRel ι l l
  | [], _ => .nil
  | v :: l, h => by simp at h; exact .cons (VRel.closed h.1) (LRel.closed (by simpa using h.2))
theorem vcells_eq (v : Value) : vcells v = v.cells.toList := by cases v <;> rfl
theorem VRel.closedW {ι : Emb} {v : Value} (h : (vcells v).all closedV = true) : VRel ι v v := by
  cases v with
  | agg cs => exact VRel.mkAgg (s := cs.toList) (t := cs.toList) (LRel.closed h)
  | _ => exact VRel.closed (by simpa [vcells] using h)

/-! ### what a simple operation does -/
abbrev EvRel (ι : Emb) (ea er : Operand → Value) (xs : Array Operand) : Prop := ∀ x ∈ xs, VRel ι (ea x) (er x)
/-- no block changes but those that are owned, none is made -/
structure Same (X : Opq) (ι : Emb) (ow : Own) (h : Heap) (w w' : World) : Prop where
  os : w'.os = w.os
  out : w'.output = w.output
  size : w'.heap.size = w.heap.size
  keep : ∀ b, (∀ n, h.live n → ¬ ow n b) → w'.heap[b]? = w.heap[b]?
  rel : HRel X ι ow h w'
structure Made (X : Opq) (ι : Emb) (nm : Nat) (w : World) (o : AObj) (v v' : Value) (w' : World) : Prop where
  os : w'.os = w.os
  out : w'.output = w.output
  rel : ∃ l obj, w'.heap = w.heap.push obj ∧ VRel (upd ι nm l) v v' ∧ ORel X (upd ι nm l) w' l (fun b => b = w.heap.size) o
def SOk (X : Opq) (ι : Emb) (ow : Own) (h : Heap) (w : World) (nm : Nat) (v : Value) (ob : Option AObj) (r : Result Next) : Prop :=
  ∃ v' w', r = .ok (.value v') w' ∧ match ob with
    | none => VRel ι v v' ∧ Same X ι ow h w w'
    | some o => Made X ι nm w o v v' w'
section
variable {X : Opq} {ι : Emb} {ow : Own} {h : Heap} {w : World} {nm : Nat}
theorem Same.refl (H : HRel X ι ow h w) : Same X ι ow h w w := ⟨rfl, rfl, rfl, fun _ _ => rfl, H⟩
theorem SOk.val (H : HRel X ι ow h w) {v v' : Value} (hv : VRel ι v v') : SOk X ι ow h w nm v none (.ok (.value v') w) := ⟨v', w, rfl, hv, Same.refl H⟩
def eszK : Kind → Nat
  | .grown e => e
  | _ => 0
/-- a fresh row of cells -/
theorem SOk.row (hi : ι nm = none) {c : List Value} {c' : Array Value} {elem : TypeId} {k : Kind} {v v' : Value} (hc : LRel ι c (c'.toList.take c.length)) (hl : c.length ≤ c'.size)
    (hk : KRel ⟨w.heap.size, 0, c'.size, eszK k⟩ c.length (0, 0) k) {w' : World} (hw : w'.heap = w.heap.push (.cells c' elem (0, 0))) (hos : w'.os = w.os) (hout : w'.output = w.output)
    (hv : VRel (upd ι nm ⟨w.heap.size, 0, c'.size, eszK k⟩) v v') :
    SOk X ι ow h w nm v (some (.cells c k)) (.ok (.value v') w') := by
  refine ⟨v', w', rfl, hos, hout, _, _, hw, hv, ?_⟩
  refine ⟨fun b => Iff.rfl, c', elem, (0, 0), ?_, rfl, by simpa using hl, .inl rfl, fun j u hj => ?_, hk⟩
  · rw [hw]; simp
  · obtain ⟨u', hu, hr⟩ := hc.get hj
    have hlt : j < c.length := (List.getElem?_eq_some_iff.1 hj).1
    rw [List.getElem?_take_of_lt hlt] at hu
    exact ⟨u', by simpa using hu, hr.mono (upd_le hi)⟩
end
theorem run_v {s : Sem Value} {w w' : World} {x : Value} (h : s.run P w = .ok x w') : (do pure (Next.value (← s)) : Sem Next).run P w = .ok (.value x) w' := by simp [h]

/-- the cells of an object, as a list that goes along -/
theorem ORel.rowL {X : Opq} {ι : Emb} {w : World} {l : Loc} {own : Nat → Prop} {c : List Value} {k : Kind} (h : ORel X ι w l own (.cells c k)) :
    (∀ b, own b ↔ b = l.blk) ∧ ∃ c' elem fr, w.heap[l.blk]? = some (.cells c' elem fr) ∧ c'.size = l.size ∧ l.base + c.length ≤ c'.size ∧ soft fr c'.size ∧ LRel ι c ((c'.toList.drop l.base).take c.length) ∧ KRel l c.length fr k := by
  obtain ⟨ho, c', elem, fr, h1, h2, h3, h4, h5, h6⟩ := h
  refine ⟨ho, c', elem, fr, h1, h2, by omega, by rw [h2]; exact h4, ?_, h6⟩
  refine All2.of_get (by simp; omega) (fun j a b ha hb => ?_)
  have hj : j < c.length := (List.getElem?_eq_some_iff.1 ha).1
  rw [List.getElem?_take_of_lt hj, List.getElem?_drop] at hb
  obtain ⟨v', hv', hr⟩ := h5 j a ha
  have : b = v' := by
    have e : c'.toList[l.base + j]? = some v' := by simpa using hv'
    rw [e] at hb; exact (Option.some.inj hb).symm
  subst this; exact hr
theorem LRel.sub {ι : Emb} {c c' : List Value} {base n off m : Nat} (h : LRel ι c ((c'.drop base).take n)) (hn : n = c.length) (ho : off + m ≤ c.length) : LRel ι ((c.drop off).take m) ((c'.drop (base + off)).take m) := by
  have h1 := (h.drop off).take m
  have e : ((((c'.drop base).take n).drop off).take m) = (c'.drop (base + off)).take m := by
    rw [List.drop_take, List.drop_drop, List.take_take]
    congr 1; omega
  rwa [e] at h1

theorem HRel.cells {X : Opq} {ι : Emb} {ow : Own} {h : Heap} {w : World} (H : HRel X ι ow h w) {n : Nat} {l : Loc} {c : List Value} {k : Kind} (hl : ι n = some l) (hg : h.get n = some (.cells c k)) :
    (∀ b, ow n b ↔ b = l.blk) ∧ ∃ c' elem fr, w.heap[l.blk]? = some (.cells c' elem fr) ∧ c'.size = l.size ∧ l.base + c.length ≤ c'.size ∧ soft fr c'.size ∧ LRel ι c ((c'.toList.drop l.base).take c.length) ∧ KRel l c.length fr k := by
  obtain ⟨l', hl', ho⟩ := H.obj n _ hg
  rw [hl] at hl'; cases hl'
  exact ho.rowL
/-- a part of a row of cells -/
theorem partV_rel {ι : Emb} {c c' : List Value} {base n off m : Nat} {agg : Bool} {v : Value} (h : LRel ι c ((c'.drop base).take n)) (hn : n = c.length) (hp : partV agg c off m = some v) :
    (agg = true ∧ off + m ≤ c.length ∧ VRel ι v (.agg ⟨(c'.drop (base + off)).take m⟩)) ∨ (agg = false ∧ ∃ v', c'[base + off]? = some v' ∧ VRel ι v v') := by
  unfold partV at hp
  cases agg with
  | true =>
    dsimp only at hp
    cases hs : subO off m c with
    | none => rw [hs] at hp; cases hp
    | some r =>
      rw [hs] at hp; cases hp
      obtain ⟨h1, rfl⟩ := subO_eq _ _ _ _ hs
      exact .inl ⟨rfl, h1, VRel.mkAgg (h.sub hn h1)⟩
  | false =>
    dsimp only at hp
    rw [nth_eq] at hp
    obtain ⟨v', hv', hr⟩ := h.get hp
    have hlt : off < c.length := (List.getElem?_eq_some_iff.1 hp).1
    rw [List.getElem?_take_of_lt (by omega), List.getElem?_drop] at hv'
    exact .inr ⟨rfl, v', hv', hr⟩

/-! ### loads -/
theorem run_loadVar {t : Nat} {i : TyI} (f : TF P t i) {w : World} {b off : Nat} {c' : Array Value} {elem : TypeId} {fr : Nat × Nat} (hg : w.heap[b]? = some (.cells c' elem fr)) :
    (loadVar t ⟨b, off, none⟩).run P w = if i.agg then (if off + i.size ≤ c'.size then .ok (.agg ((c'.toList.drop off).take i.size).toArray) w else (loadVar t ⟨b, off, none⟩).run P w)
      else match c'[off]? with | some v => .ok v w | none => (loadVar t ⟨b, off, none⟩).run P w := by
  unfold loadVar
  cases ha : i.agg with
  | true =>
    simp only [if_true]
    split
    · rename_i hle
      simp [f.agg, f.size, ha, run_loads hg off i.size hle]
    · rfl
  | false =>
    simp only [Bool.false_eq_true, if_false]
    split
    · rename_i v hv
      simp [f.agg, ha, cell_row hg, hv]
    · rfl
theorem ok_load {X : Opq} {ι : Emb} {ow : Own} {h : Heap} {w : World} {nm : Nat} (H : HRel X ι ow h w) {t : Nat} {i : TyI} (f : TF P t i) {a : Operand} {ea er : Operand → Value} {v : Value} {ob : Option AObj} {o : Oper}
    (ho : o.op = .load t a) (E : EvRel ι ea er o.op.operands) (hs : sLoad i.agg i.cells a nm ea h.get = some (v, ob)) : SOk X ι ow h w nm v ob ((execOp er o).run P w) := by
  have ha := E a (by rw [ho]; simp [Op.operands])
  simp only [execOp, ho]
  simp only [sLoad] at hs
  generalize ea a = x at *
  generalize er a = y at *
  cases ha with
  | ptr n off l hl =>
    dsimp only at hs
    cases hg : h.get n with
    | none => rw [hg] at hs; cases hs
    | some p =>
      rw [hg] at hs
      cases p with
      | cells c k =>
        dsimp only at hs
        cases hp : partV i.agg c off i.cells with
        | none => rw [hp] at hs; cases hs
        | some u =>
          rw [hp] at hs; cases hs
          obtain ⟨_, c', elem, fr, h1, h2, h3, h4, h5, h6⟩ := H.cells hl hg
          have hrun : ∃ v', (loadVar t ⟨l.blk, l.base + off, none⟩).run P w = .ok v' w ∧ VRel ι v v' := by
            rw [run_loadVar f h1]
            rcases partV_rel h5 rfl hp with ⟨e, hle, hr⟩ | ⟨e, v', hv, hr⟩
            · have : i.cells = i.size := by simp [TyI.cells, e]
              rw [this] at hle hr
              rw [if_pos e, if_pos (by omega)]
              exact ⟨_, rfl, hr⟩
            · rw [if_neg (by simp [e])]
              have : c'[l.base + off]? = some v' := by simpa using hv
              rw [this]
              exact ⟨v', rfl, hr⟩
          obtain ⟨v', hr1, hr2⟩ := hrun
          rw [run_v (by simpa [Instr.loadAt, Instr.sureAddr] using hr1)]
          exact SOk.val H hr2
      | _ => cases hs
  | _ => cases hs
end Go.AM

/- Each simple operation of the machine is the model's: the second part. -/
namespace Go.AM
variable {P : Program} {X : Opq} {ι : Emb} {ow : Own} {h : Heap} {w : World} {nm : Nat} {ea er : Operand → Value} {v : Value} {ob : Option AObj} {o : Oper}

theorem ok_mov (H : HRel X ι ow h w) {x : Operand} (ho : o.op = .move x ∨ o.op = .assign x) (E : EvRel ι ea er o.op.operands) (hs : sMov x nm ea h.get = some (v, ob)) :
    SOk X ι ow h w nm v ob ((execOp er o).run P w) := by
  cases hs
  rcases ho with ho | ho
  · have hx := E x (by rw [ho]; simp [Op.operands])
    simp only [execOp, ho]
    exact SOk.val H hx
  · have hx := E x (by rw [ho]; simp [Op.operands])
    simp only [execOp, ho]
    exact SOk.val H hx
theorem ok_pick (H : HRel X ι ow h w) {c a b : Operand} (ho : o.op = .pick c a b) (E : EvRel ι ea er o.op.operands) (hs : sPick c a b nm ea h.get = some (v, ob)) :
    SOk X ι ow h w nm v ob ((execOp er o).run P w) := by
  have hc := E c (by rw [ho]; simp [Op.operands])
  have ha := E a (by rw [ho]; simp [Op.operands])
  have hb := E b (by rw [ho]; simp [Op.operands])
  simp only [execOp, ho]
  simp only [sPick] at hs
  generalize ea c = x at *
  generalize er c = y at *
  cases hc with
  | bool t => cases t with
    | true => cases hs; simpa [asBool] using SOk.val H ha
    | false => cases hs; simpa [asBool] using SOk.val H hb
  | _ => cases hs
theorem ok_alloc (hi : ι nm = none) {t : Nat} {i : TyI} (f : TF P t i) (ho : o.op = .alloc t) (hs : sAlloc (vcells i.zero) nm ea h.get = some (v, ob)) :
    SOk X ι ow h w nm v ob ((execOp er o).run P w) := by
  cases hs
  simp only [execOp, ho]
  have hr : (Instr.alloc t true (.tuple #[])).run P w = .ok (.pointer (some ⟨w.heap.size, 0, none⟩)) { w with heap := w.heap.push (.cells i.zero.cells t (0, 0)) } := by
    simp [Instr.alloc, f.zero, newVar, newRow]
  rw [run_v hr]
  exact SOk.row (k := .var) (elem := t) hi (c' := i.zero.cells) (by rw [vcells_eq, List.take_of_length_le (by simp)]; rw [← vcells_eq]; exact LRel.closed f.cl) (by rw [vcells_eq]; simp) ⟨rfl, rfl, by rw [vcells_eq]; simp⟩ rfl rfl rfl (.ptr nm 0 _ (upd_same _ _ _))
theorem ok_box (hi : ι nm = none) {t : Nat} {x : Operand} (ho : o.op = .box t x) (E : EvRel ι ea er o.op.operands) (hs : sBox x nm ea h.get = some (v, ob)) :
    SOk X ι ow h w nm v ob ((execOp er o).run P w) := by
  have hx := E x (by rw [ho]; simp [Op.operands])
  cases hs
  simp only [execOp, ho]
  have hr : (Instr.box t (er x)).run P w = .ok (.pointer (some ⟨w.heap.size, 0, none⟩)) { w with heap := w.heap.push (.cells (er x).cells t (0, 0)) } := by
    simp [Instr.box, newVar, newRow]
  rw [run_v hr]
  have hl := hx.cells
  have hlen := hl.length
  exact SOk.row (k := .var) (elem := t) hi (c' := (er x).cells) (by rw [List.take_of_length_le (by omega)]; exact hl) (by simpa using Nat.le_of_eq hlen) ⟨rfl, rfl, by simpa using hlen⟩ rfl rfl rfl (.ptr nm 0 _ (upd_same _ _ _))
theorem ok_nilc (H : HRel X ι ow h w) {x : Operand} (ho : o.op = .nilCheck x) (E : EvRel ι ea er o.op.operands) (hs : sNilc x nm ea h.get = some (v, ob)) :
    SOk X ι ow h w nm v ob ((execOp er o).run P w) := by
  have hx := E x (by rw [ho]; simp [Op.operands])
  simp only [execOp, ho]
  simp only [sNilc] at hs
  generalize ea x = a at *
  generalize er x = b at *
  cases hx with
  | ptr n off l hl => cases hs; exact SOk.val H (.ptr n off l hl)
  | func f a b a' b' ha hb ra rb => cases hs; exact SOk.val H (.func f a b a' b' ha hb ra rb)
  | _ => cases hs
theorem ok_ext (H : HRel X ι ow h w) {x : Operand} {k : Nat} (ho : o.op = .extract x k) (E : EvRel ι ea er o.op.operands) (hs : sExt x k nm ea h.get = some (v, ob)) :
    SOk X ι ow h w nm v ob ((execOp er o).run P w) := by
  have hx := E x (by rw [ho]; simp [Op.operands])
  simp only [execOp, ho]
  simp only [sExt] at hs
  generalize ea x = a at *
  generalize er x = b at *
  cases hx with
  | tuple a a' ha ra =>
    dsimp only at hs
    rw [nth_eq] at hs
    cases hv : a.toList[k]? with
    | none => rw [hv] at hs; cases hs
    | some u =>
      rw [hv] at hs; cases hs
      obtain ⟨u', hu', hr⟩ := (LRel.of_arr ha ra).get hv
      have : a'[k]? = some u' := by simpa using hu'
      rw [run_v (x := u') (w' := w) (by simp [Instr.extract, this])]
      exact SOk.val H hr
  | _ => cases hs
theorem exec_builtin {b : Builtin} {args : Array Operand} {ts : Array TypeId} (ho : o.op = .call { callee := .builtin b, args, argTypes := ts }) (er : Operand → Value) :
    execOp er o = builtin b ts o.type (args.map fun | .const _ => true | _ => false) (args.map er) := by
  simp only [execOp, ho, resolve]; rfl
theorem ok_lens (H : HRel X ι ow h w) {x : Operand} {ts : Array TypeId} {t : Nat} {i : TyI} (f : TF P t i) (hu : i.under = .string)
    (ho : o.op = .call { callee := .builtin .len, args := #[x], argTypes := ts }) (ht : ts[0]? = some t) (E : EvRel ι ea er o.op.operands) (hs : sLens x nm ea h.get = some (v, ob)) :
    SOk X ι ow h w nm v ob ((execOp er o).run P w) := by
  have hx := E x (by rw [ho]; simp [Op.operands, Call.operands])
  rw [exec_builtin ho]
  simp only [sLens] at hs
  simp only [builtin, List.map_toArray, List.map_cons, List.map_nil]
  generalize ea x = a at *
  generalize er x = b at *
  cases hx with
  | string s =>
    cases hs
    rw [run_v (x := goInt s.size) (w' := w) (by simp [Builtin.len_, ht, f.under, hu])]
    exact SOk.val H (.int _ _)
  | _ => cases hs
theorem ok_len (H : HRel X ι ow h w) {x : Operand} {ts : Array TypeId} {t e : Nat} {i : TyI} (f : TF P t i) (hu : i.under = .slice e)
    (ho : o.op = .call { callee := .builtin .len, args := #[x], argTypes := ts }) (ht : ts[0]? = some t) (E : EvRel ι ea er o.op.operands) (hs : sLen x nm ea h.get = some (v, ob)) :
    SOk X ι ow h w nm v ob ((execOp er o).run P w) := by
  have hx := E x (by rw [ho]; simp [Op.operands, Call.operands])
  rw [exec_builtin ho]
  simp only [sLen] at hs
  simp only [builtin, List.map_toArray, List.map_cons, List.map_nil]
  generalize ea x = a at *
  generalize er x = b at *
  have hr : ∀ a n c, (Builtin.len_ ts o.type #[.slice a n c]).run P w = .ok (goInt n) w := by intro a n c; simp [Builtin.len_, ht, f.under, hu]
  cases hx with
  | slNil n c => cases hs; rw [run_v (hr _ _ _)]; exact SOk.val H (.int _ _)
  | slEx n off len cap l hl => cases hs; rw [run_v (hr _ _ _)]; exact SOk.val H (.int _ _)
  | slGr n off len cap cap' l hl hlen hc hb => cases hs; rw [run_v (hr _ _ _)]; exact SOk.val H (.int _ _)
  | slEmp a c => cases hs; rw [run_v (hr _ _ _)]; exact SOk.val H (.int _ _)
  | _ => cases hs
theorem ok_lena (H : HRel X ι ow h w) {x : Operand} {ts : Array TypeId} {t e n : Nat} {i : TyI} (f : TF P t i) (hu : i.under = .array n e)
    (ho : o.op = .call { callee := .builtin .len, args := #[x], argTypes := ts }) (ht : ts[0]? = some t) (hs : sLena n nm ea h.get = some (v, ob)) :
    SOk X ι ow h w nm v ob ((execOp er o).run P w) := by
  rw [exec_builtin ho]
  simp only [builtin, List.map_toArray, List.map_cons, List.map_nil]
  cases hs
  rw [run_v (x := goInt n) (w' := w) (by simp [Builtin.len_, ht, f.under, hu])]
  exact SOk.val H (.int _ _)
theorem ok_lenm (H : HRel X ι ow h w) {x : Operand} {ts : Array TypeId} {t k e : Nat} {i : TyI} (f : TF P t i) (hu : i.under = .map k e)
    (ho : o.op = .call { callee := .builtin .len, args := #[x], argTypes := ts }) (ht : ts[0]? = some t) (E : EvRel ι ea er o.op.operands) (hs : sLenm x nm ea h.get = some (v, ob)) :
    SOk X ι ow h w nm v ob ((execOp er o).run P w) := by
  have hx := E x (by rw [ho]; simp [Op.operands, Call.operands])
  rw [exec_builtin ho]
  simp only [sLenm] at hs
  simp only [builtin, List.map_toArray, List.map_cons, List.map_nil]
  generalize ea x = a at *
  generalize er x = b at *
  cases hx with
  | mapNil =>
    cases hs
    rw [run_v (x := goInt 0) (w' := w) (by simp [Builtin.len_, ht, f.under, hu])]
    exact SOk.val H (.int _ _)
  | map n l hl =>
    dsimp only at hs
    cases hg : h.get n with
    | none => rw [hg] at hs; cases hs
    | some p =>
      rw [hg] at hs
      cases p with
      | map es clock =>
        cases hs
        obtain ⟨l', hl', ho'⟩ := H.obj n _ hg
        rw [hl] at hl'; cases hl'
        obtain ⟨_, es', h1, h2⟩ := ho'
        have hlen : es.length = es'.size := by simpa using h2.length
        rw [run_v (x := goInt es'.size) (w' := w) (by simp [Builtin.len_, ht, f.under, hu, getObj, Sem.run, h1])]
        rw [hlen]
        exact SOk.val H (.int _ _)
      | _ => cases hs
  | _ => cases hs

/-! ### operators -/
theorem intOp_run {op : BinOp} {k : IntKind} {a b : Int} {v : Value} (hs : isSh op = false) (h : intOp op k a b = some v) (T : TypeId) : (binOp op T (.int k a) (.int k b)).run P w = .ok v w := by
  cases op <;> simp only [intOp, isSh] at h hs
  case quo =>
    cases e : eqI b 0 with
    | true => rw [e] at h; cases h
    | false =>
      rw [e] at h; cases h
      rw [eqI_eq] at e
      have hb : ¬ b = 0 := by simpa using e
      simp [binOp, Op.intDiv, hb, wrapF_eq]
  case rem =>
    cases e : eqI b 0 with
    | true => rw [e] at h; cases h
    | false =>
      rw [e] at h; cases h
      rw [eqI_eq] at e
      have hb : ¬ b = 0 := by simpa using e
      simp [binOp, Op.intDiv, hb]
  all_goals (first | (cases h; done) | (cases hs; done) | skip)
  all_goals (cases h; simp [binOp, Op.intArith, Op.intCmp, Op.intBits, wrapF_eq, eqI_eq, ltI_eq]; try rfl)
  all_goals (rw [← decide_not]; congr 1; apply propext; omega)
theorem shOp_run {op : BinOp} {k j : IntKind} {a b : Int} {v : Value} (hs : isSh op = true) (h : shOp op k a b = some v) (T : TypeId) : (binOp op T (.int k a) (.int j b)).run P w = .ok v w := by
  unfold shOp at h
  cases b with
  | negSucc m => cases h
  | ofNat m =>
    dsimp only at h
    have h0 : ¬ ((Int.ofNat m : Int) < 0) := by have : (0 : Int) ≤ Int.ofNat m := Int.natCast_nonneg m; omega
    cases op <;> simp only [isSh] at hs
    all_goals (first | (cases hs; done) | skip)
    all_goals (cases h; simp only [binOp, Op.shift]; rw [if_neg h0]; simp [wrapF_eq])
theorem strOp_run {op : BinOp} {a b : ByteArray} {v : Value} (hs : isSh op = false) (h : strOp op a b = some v) (T : TypeId) : (binOp op T (.string a) (.string b)).run P w = .ok v w := by
  cases op <;> simp only [strOp, isSh] at h hs
  case add =>
    cases e : Nat.blt (Nat.add a.size b.size) 9223372036854775808 with
    | false => rw [e] at h; cases h
    | true =>
      rw [e] at h; cases h
      have hl : a.size + b.size < 9223372036854775808 := blt_lt e
      have hn : ¬ ((a.size : Int) + (b.size : Int) > IntKind.i64.max) := by
        have : IntKind.i64.max = 9223372036854775807 := rfl
        rw [this]; omega
      have hn' : ¬ (((a.size + b.size : Nat) : Int) > IntKind.i64.max) := by rw [Int.natCast_add]; exact hn
      simp only [binOp, Op.stringOp]
      rw [if_neg hn']
      rfl
  all_goals (first | (cases h; done) | (cases hs; done) | skip)
  all_goals (cases h; simp [binOp, Op.stringOp, eqStr_toList, toList_eq])
theorem eqGuard_scalar {op : BinOp} {T : TypeId} {x y : Operand} {a b : Value} (h : (∀ c, a ≠ .agg c) ∧ a ≠ .nilIface) : (eqGuard op T x y a b).run P w = .ok () w := by
  unfold eqGuard
  cases op <;> cases a <;> first | (exact absurd rfl h.2) | (exact absurd rfl (h.1 _)) | (cases b <;> rfl)
theorem equal_run {T : TypeId} {x y : Value} {b : Bool} (h : ∀ d, (Op.equalIn (d + 1) T x y).run P w = .ok b w) : (Op.equal T x y).run P w = .ok b w := h 9999
theorem equal_bool {T : TypeId} (hT : P.underlying T = some .bool) (a b : Bool) : (Op.equal T (.bool a) (.bool b)).run P w = .ok (a == b) w :=
  equal_run fun d => by
    unfold Op.equalIn
    simp only [Sem.run_bind, underlying, run_program, Result.andThen_ok, hT, Sem.run_pure]
theorem boolOp_run {op : BinOp} {a b : Bool} {v : Value} {T : TypeId} (hT : P.underlying T = some .bool) (h : (match op with
    | .eql => some (Value.bool (a == b))
    | .neq => some (.bool (!(a == b)))
    | _ => none) = some v) : (binOp op T (.bool a) (.bool b)).run P w = .ok v w := by
  cases op <;> simp only at h
  case eql => cases h; simp only [binOp, Sem.run_bind, equal_bool hT, Result.andThen_ok, Sem.run_pure]
  case neq => cases h; simp only [binOp, Sem.run_bind, equal_bool hT, Result.andThen_ok, Sem.run_pure]
  all_goals cases h
theorem ok_bin (H : HRel X ι ow h w) {op : BinOp} {t u : Nat} {x y : Operand}
    (ho : o.op = .binOp op t x y u) (E : EvRel ι ea er o.op.operands) (hs : sBin op x y nm ea h.get = some (v, ob)) : SOk X ι ow h w nm v ob ((execOp er o).run P w) := by
  have hx := E x (by rw [ho]; simp [Op.operands])
  have hy := E y (by rw [ho]; simp [Op.operands])
  simp only [execOp, ho]
  simp only [sBin] at hs
  cases hv : binV op (ea x) (ea y) with
  | none => rw [hv] at hs; cases hs
  | some r =>
    rw [hv] at hs; cases hs
    have key : (do eqGuard op t x y (er x) (er y); binOp op t (er x) (er y) : Sem Value).run P w = .ok v w ∧ VRel ι v v := by
      unfold binV at hv
      generalize ea x = a at *
      generalize ea y = b at *
      generalize er x = a' at *
      generalize er y = b' at *
      cases hx with
      | int k n => cases hy with
        | int j m =>
          dsimp only at hv
          cases e : isSh op with
          | true =>
            rw [e] at hv
            refine ⟨by simp [eqGuard_scalar (P := P) (w := w) (a := .int k n) ⟨by simp, by simp⟩, shOp_run e hv], ?_⟩
            unfold shOp at hv
            cases m with
            | negSucc m => cases hv
            | ofNat m => cases op <;> simp [isSh] at e <;> (cases hv; exact .int _ _)
          | false =>
            rw [e] at hv
            dsimp only at hv
            cases ek : eqK k j with
            | false => rw [ek] at hv; cases hv
            | true =>
              rw [ek] at hv
              cases eqK_eq.1 ek
              refine ⟨by simp [eqGuard_scalar (P := P) (w := w) (a := .int k n) ⟨by simp, by simp⟩, intOp_run e hv], ?_⟩
              unfold intOp at hv
              cases op <;> simp only at hv <;> first
                | (cases hv; exact .int _ _)
                | (cases hv; exact .bool _)
                | (cases e2 : eqI m 0 <;> rw [e2] at hv <;> cases hv; exact .int _ _)
                | cases hv
        | _ => cases hv
      | string s => cases hy with
        | string s' =>
          dsimp only at hv
          cases e : isSh op with
          | true => cases op <;> simp [isSh] at e <;> cases hv
          | false =>
            refine ⟨by simp [eqGuard_scalar (P := P) (w := w) (a := .string s) ⟨by simp, by simp⟩, strOp_run e hv], ?_⟩
            unfold strOp at hv
            cases op <;> simp only at hv <;> first
              | (cases hv; exact .bool _)
              | (cases e2 : Nat.blt (Nat.add s.size s'.size) 9223372036854775808 <;> rw [e2] at hv <;> cases hv; exact .string _)
              | cases hv
        | _ => cases hv
      | _ => cases hv
    rw [run_v key.1]
    exact SOk.val H key.2
theorem ok_binb (H : HRel X ι ow h w) {op : BinOp} {t u : Nat} (hT : P.underlying t = some .bool) {x y : Operand}
    (ho : o.op = .binOp op t x y u) (E : EvRel ι ea er o.op.operands) (hs : sBinB op x y nm ea h.get = some (v, ob)) : SOk X ι ow h w nm v ob ((execOp er o).run P w) := by
  have hx := E x (by rw [ho]; simp [Op.operands])
  have hy := E y (by rw [ho]; simp [Op.operands])
  simp only [execOp, ho]
  simp only [sBinB] at hs
  generalize ea x = a at *
  generalize ea y = b at *
  generalize er x = a' at *
  generalize er y = b' at *
  cases hx with
  | bool p => cases hy with
    | bool q =>
      cases hv : boolV op (.bool p) (.bool q) with
      | none => rw [hv] at hs; cases hs
      | some r =>
        rw [hv] at hs; cases hs
        simp only [boolV] at hv
        have hr : (do eqGuard op t x y (.bool p) (.bool q); binOp op t (.bool p) (.bool q) : Sem Value).run P w = .ok v w := by
          simp only [Sem.run_bind, eqGuard_scalar (P := P) (w := w) (a := .bool p) (b := .bool q) ⟨by simp, by simp⟩, Result.andThen_ok]
          exact boolOp_run hT hv
        rw [run_v hr]
        refine SOk.val H ?_
        cases op <;> simp only at hv <;> cases hv <;> exact .bool _
    | _ => cases hs
  | _ => cases hs
end Go.AM

/- Each simple operation of the machine is the model's: the third part. -/
namespace Go.AM
variable {P : Program} {X : Opq} {ι : Emb} {ow : Own} {h : Heap} {w : World} {nm : Nat} {ea er : Operand → Value} {v : Value} {ob : Option AObj} {o : Oper}

/-! ### against nil -/
def NK.fits : NK → TypeDesc → Prop
  | .p, .pointer _ => True
  | .s, .slice _ => True
  | .m, .map _ _ => True
  | .f, .func _ _ _ => True
  | _, _ => False
theorem nil_agg {k : NK} {a : Value} {b : Bool} (h : nilV k a = some b) : (∀ c, a ≠ .agg c) ∧ a ≠ .nilIface := by cases k <;> cases a <;> simp [nilV] at h <;> simp
/-- a value against nil, nil on the right -/
theorem nil_right {k : NK} {a a' z : Value} {b : Bool} {T : TypeId} {d : TypeDesc} (ha : VRel ι a a') (hn : nilV k a = some b) (hz : z = .pointer none ∧ k = .p ∨ (∃ l c, z = .slice none l c) ∧ k = .s ∨ z = .map none ∧ k = .m ∨ z = .nilFunc ∧ k = .f)
    (hu : P.underlying T = some d) (hd : k.fits d) : (Op.equal T a' z).run P w = .ok b w := by
  refine equal_run fun n => ?_
  unfold Op.equalIn
  cases k with
  | p =>
    obtain ⟨rfl, _⟩ : z = .pointer none ∧ True := by rcases hz with h | h | h | h <;> simp at h <;> simp [h]
    cases d <;> simp only [NK.fits] at hd
    cases ha <;> simp only [nilV] at hn <;> cases hn <;> simp [underlying, hu]
  | s =>
    obtain ⟨l, c, rfl⟩ : ∃ l c, z = .slice none l c := by rcases hz with h | h | h | h <;> simp at h <;> exact h
    cases d <;> simp only [NK.fits] at hd
    cases ha <;> simp only [nilV] at hn <;> cases hn <;> simp [underlying, hu]
  | m =>
    obtain ⟨rfl, _⟩ : z = .map none ∧ True := by rcases hz with h | h | h | h <;> simp at h <;> simp [h]
    cases d <;> simp only [NK.fits] at hd
    cases ha <;> simp only [nilV] at hn <;> cases hn <;> simp [underlying, hu]
  | f =>
    obtain ⟨rfl, _⟩ : z = .nilFunc ∧ True := by rcases hz with h | h | h | h <;> simp at h <;> simp [h]
    cases d <;> simp only [NK.fits] at hd
    cases ha <;> simp only [nilV] at hn <;> cases hn <;> simp [underlying, hu]
theorem nil_left {a a' : Value} {b : Bool} {T e : TypeId} (ha : VRel ι a a') (hn : nilV .p a = some b) (hu : P.underlying T = some (.pointer e)) : (Op.equal T (.pointer none) a').run P w = .ok b w := by
  refine equal_run fun n => ?_
  unfold Op.equalIn
  cases ha <;> simp only [nilV] at hn <;> cases hn <;> simp [underlying, hu]
theorem isNilConst_eq {k : NK} {y : Operand} (h : isNilConst k y = true) : ∃ z, y = .const z ∧ (z = .pointer none ∧ k = .p ∨ (∃ l c, z = .slice none l c) ∧ k = .s ∨ z = .map none ∧ k = .m ∨ z = .nilFunc ∧ k = .f) := by
  cases y with
  | const z => cases k <;> cases z <;> simp [isNilConst] at h <;> (try (rename_i a; cases a <;> simp at h)) <;> (try (rename_i a b c; cases a <;> simp at h)) <;> simp
  | _ => cases k <;> simp [isNilConst] at h
theorem eql_run {T : TypeId} {a b : Value} {r : Bool} (ha : ∀ k n, a ≠ .int k n) (hs : ∀ s, a ≠ .string s) (hf : ∀ k n, a ≠ .float k n) (hc : ∀ k n m, a ≠ .complex k n m) (he : (Op.equal T a b).run P w = .ok r w) (neg : Bool) :
    (binOp (cond neg .neq .eql) T a b).run P w = .ok (.bool (r != neg)) w := by
  cases neg
  · have : binOp .eql T a b = (do pure (.bool (← Op.equal T a b))) := by
      cases a <;> first | rfl | exact absurd rfl (ha _ _) | exact absurd rfl (hs _) | exact absurd rfl (hf _ _) | exact absurd rfl (hc _ _ _)
    simp [this, he]
  · have : binOp .neq T a b = (do pure (.bool (!(← Op.equal T a b)))) := by
      cases a <;> first | rfl | exact absurd rfl (ha _ _) | exact absurd rfl (hs _) | exact absurd rfl (hf _ _) | exact absurd rfl (hc _ _ _)
    simp [this, he]
end Go.AM

/- Each simple operation of the machine is the model's: the fourth part. -/
namespace Go.AM
variable {P : Program} {X : Opq} {ι : Emb} {ow : Own} {h : Heap} {w : World} {nm : Nat} {ea er : Operand → Value} {v : Value} {ob : Option AObj} {o : Oper}

theorem ok_eqn (H : HRel X ι ow h w) {neg : Bool} {k : NK} {t u : Nat} {x y : Operand} {d : TypeDesc} (hu : P.underlying t = some d) (hd : k.fits d) (hc : isNilConst k y = true) (hE : ∀ z, er (.const z) = z)
    (ho : o.op = .binOp (cond neg .neq .eql) t x y u) (E : EvRel ι ea er o.op.operands) (hs : sEqn neg k x nm ea h.get = some (v, ob)) : SOk X ι ow h w nm v ob ((execOp er o).run P w) := by
  have hx := E x (by rw [ho]; simp [Op.operands])
  simp only [execOp, ho]
  simp only [sEqn] at hs
  cases hn : nilV k (ea x) with
  | none => rw [hn] at hs; cases hs
  | some b =>
    rw [hn] at hs; cases hs
    obtain ⟨z, rfl, hz⟩ := isNilConst_eq hc
    have he : (Op.equal t (er x) (er (.const z))).run P w = .ok b w := by rw [hE]; exact nil_right hx hn hz hu hd
    have hr : (binOp (cond neg .neq .eql) t (er x) (er (.const z))).run P w = .ok (.bool (b != neg)) w := by
      refine eql_run ?_ ?_ ?_ ?_ he neg
      all_goals (intros; intro e; rw [e] at hx; generalize ea x = a at *; cases hx <;> cases k <;> simp [nilV] at hn)
    have hg : (eqGuard (cond neg .neq .eql) t x (.const z) (er x) (er (.const z))).run P w = .ok () w := by
      refine eqGuard_scalar ⟨?_, ?_⟩
      · intro c e; rw [e] at hx; generalize ea x = a at *; cases hx <;> cases k <;> simp [nilV] at hn
      · intro e; rw [e] at hx; generalize ea x = a at *; cases hx <;> cases k <;> simp [nilV] at hn
    rw [run_v (x := .bool (b != neg)) (w' := w) (by simp [hg, hr])]
    exact SOk.val H (.bool _)
theorem ok_eqnl (H : HRel X ι ow h w) {neg : Bool} {t u e : Nat} {x y : Operand} (hu : P.underlying t = some (.pointer e)) (hc : isNilConst .p x = true) (hE : ∀ z, er (.const z) = z)
    (ho : o.op = .binOp (cond neg .neq .eql) t x y u) (E : EvRel ι ea er o.op.operands) (hs : sEqn neg .p y nm ea h.get = some (v, ob)) : SOk X ι ow h w nm v ob ((execOp er o).run P w) := by
  have hy := E y (by rw [ho]; simp [Op.operands])
  simp only [execOp, ho]
  simp only [sEqn] at hs
  cases hn : nilV .p (ea y) with
  | none => rw [hn] at hs; cases hs
  | some b =>
    rw [hn] at hs; cases hs
    obtain ⟨z, rfl, hz⟩ := isNilConst_eq hc
    have : z = .pointer none := by rcases hz with h | h | h | h <;> simp at h <;> exact h
    subst this
    have he : (Op.equal t (er (.const (.pointer none))) (er y)).run P w = .ok b w := by rw [hE]; exact nil_left hy hn hu
    have hr : (binOp (cond neg .neq .eql) t (er (.const (.pointer none))) (er y)).run P w = .ok (.bool (b != neg)) w := by
      refine eql_run ?_ ?_ ?_ ?_ he neg
      all_goals (intros; rw [hE]; simp)
    have hg : (eqGuard (cond neg .neq .eql) t (.const (.pointer none)) y (er (.const (.pointer none))) (er y)).run P w = .ok () w := by
      rw [hE]; exact eqGuard_scalar ⟨by simp, by simp⟩
    rw [run_v (x := .bool (b != neg)) (w' := w) (by simp [hg, hr])]
    exact SOk.val H (.bool _)
theorem ok_un (H : HRel X ι ow h w) {op : UnOp} {t : Nat} {x : Operand} (ho : o.op = .unOp op t x) (E : EvRel ι ea er o.op.operands) (hs : sUn op x nm ea h.get = some (v, ob)) :
    SOk X ι ow h w nm v ob ((execOp er o).run P w) := by
  have hx := E x (by rw [ho]; simp [Op.operands])
  simp only [execOp, ho]
  simp only [sUn] at hs
  generalize ea x = a at *
  generalize er x = b at *
  cases op with
  | neg => cases hx with
    | int k n => cases hs; rw [run_v (x := .int k (k.wrap (0 - n))) (w' := w) (by simp [Op.unary, Op.intArith])]; rw [← wrapF_eq]; exact SOk.val H (.int _ _)
    | _ => cases hs
  | xor => cases hx with
    | int k n =>
      cases hs
      rw [run_v (x := .int k (k.wrap (BitVec.ofInt k.bits (if k.signed then -1 else k.max) ^^^ BitVec.ofInt k.bits n).toNat)) (w' := w) (by simp [Op.unary, Op.intBits])]
      rw [← wrapF_eq]; exact SOk.val H (.int _ _)
    | _ => cases hs
  | not => cases hx with
    | bool b => cases hs; rw [run_v (x := .bool !b) (w' := w) (by simp [Op.unary])]; exact SOk.val H (.bool _)
    | _ => cases hs
  | plus => cases hx <;> cases hs
theorem ok_cvi (H : HRel X ι ow h w) {s d : Nat} {si di : TyI} (fs : TF P s si) (fd : TF P d di) {k : IntKind} (hd : di.under = .int k) {x : Operand} (ho : o.op = .convert s d x) (E : EvRel ι ea er o.op.operands)
    (hs : sCvi k x nm ea h.get = some (v, ob)) : SOk X ι ow h w nm v ob ((execOp er o).run P w) := by
  have hx := E x (by rw [ho]; simp [Op.operands])
  simp only [execOp, ho]
  simp only [sCvi] at hs
  generalize ea x = a at *
  generalize er x = b at *
  cases hx with
  | int j n =>
    cases hs
    rw [run_v (x := .int k (k.wrap n)) (w' := w) (by simp [convert, fs.under, fd.under, hd, Conv.intToInt])]
    rw [← wrapF_eq]; exact SOk.val H (.int _ _)
  | _ => cases hs
theorem ok_cvss (H : HRel X ι ow h w) {s d : Nat} {si di : TyI} (fs : TF P s si) (fd : TF P d di) (hd : di.under = .string) {x : Operand} (ho : o.op = .convert s d x) (E : EvRel ι ea er o.op.operands)
    (hs : sCvss x nm ea h.get = some (v, ob)) : SOk X ι ow h w nm v ob ((execOp er o).run P w) := by
  have hx := E x (by rw [ho]; simp [Op.operands])
  simp only [execOp, ho]
  simp only [sCvss] at hs
  generalize ea x = a at *
  generalize er x = b at *
  cases hx with
  | string z =>
    cases hs
    rw [run_v (x := .string z) (w' := w) (by simp [convert, fs.under, fd.under, hd])]
    exact SOk.val H (.string _)
  | _ => cases hs
theorem ok_s2a (H : HRel X ι ow h w) {t n e : Nat} {i : TyI} (f : TF P t i) (hu : i.under = .array n e) {x : Operand} (ho : o.op = .sliceToArrayPointer t x) (E : EvRel ι ea er o.op.operands)
    (hs : sS2a n x nm ea h.get = some (v, ob)) : SOk X ι ow h w nm v ob ((execOp er o).run P w) := by
  have hx := E x (by rw [ho]; simp [Op.operands])
  simp only [execOp, ho]
  simp only [sS2a] at hs
  generalize ea x = a at *
  generalize er x = b at *
  have hr : ∀ (a : Option Addr) len cap, n ≤ len → (Instr.arrayAt t (.slice a len cap)).run P w = .ok (.pointer a) w := by
    intro a len cap hle
    have : ¬ len < n := by omega
    simp [Instr.arrayAt, f.under, hu, this]
  cases hx with
  | slEx m off len cap l hl =>
    dsimp only at hs
    cases e : Nat.ble n len with
    | false => rw [e] at hs; cases hs
    | true => rw [e] at hs; cases hs; rw [run_v (hr _ _ _ (Nat.le_of_ble_eq_true e))]; exact SOk.val H (.ptr _ _ _ hl)
  | slGr m off len cap cap' l hl hlen hc hb =>
    change (match Nat.ble n len with | true => some (Value.pointer (some ⟨m, off, none⟩), none) | false => none) = some (v, ob) at hs
    cases e : Nat.ble n len with
    | false => rw [e] at hs; cases hs
    | true => rw [e] at hs; cases hs; rw [run_v (hr _ _ _ (Nat.le_of_ble_eq_true e))]; exact SOk.val H (.ptr _ _ _ hl)
  | _ => cases hs
theorem LRel.map {ea er : Operand → Value} : ∀ {l : List Operand}, (∀ x ∈ l, VRel ι (ea x) (er x)) → LRel ι (l.map ea) (l.map er) := fun {l} hl => All2.of_map l hl
theorem ok_mkf (H : HRel X ι ow h w) {g : Nat} {first captured : Array Operand} (ho : o.op = .makeFunc (.func g) first captured) (E : EvRel ι ea er o.op.operands)
    (hs : sMkf g first.toList captured.toList nm ea h.get = some (v, ob)) : SOk X ι ow h w nm v ob ((execOp er o).run P w) := by
  simp only [execOp, ho]
  cases hs
  have h1 : LRel ι (first.toList.map ea) (first.toList.map er) := LRel.map fun x hx => E x (by rw [ho]; simp [Op.operands]; exact .inl (by simpa using hx))
  have h2 : LRel ι (captured.toList.map ea) (captured.toList.map er) := LRel.map fun x hx => E x (by rw [ho]; simp [Op.operands]; exact .inr (by simpa using hx))
  rw [run_v (x := .func (.func g) (first.map er) (captured.map er)) (w' := w) (by simp [Instr.makeFunc])]
  have e1 : first.map er = ⟨first.toList.map er⟩ := by apply Array.ext'; simp
  have e2 : captured.map er = ⟨captured.toList.map er⟩ := by apply Array.ext'; simp
  rw [e1, e2]
  exact SOk.val H (VRel.mkFunc h1 h2)
theorem ok_mkmap (hi : ι nm = none) {t : Nat} (ho : o.op = .makeMap t none) (hs : sMkmap nm ea h.get = some (v, ob)) : SOk X ι ow h w nm v ob ((execOp er o).run P w) := by
  simp only [execOp, ho]
  cases hs
  have _ := hi
  rw [run_v (x := .map (some w.heap.size)) (w' := { w with heap := w.heap.push (.map #[] 0) }) (by simp [Instr.makeMap])]
  refine ⟨_, _, rfl, rfl, rfl, ⟨w.heap.size, 0, 0, 0⟩, _, rfl, .map nm _ (upd_same _ _ _), ?_⟩
  exact ⟨fun b => Iff.rfl, #[], by simp, .nil⟩
theorem ok_fld (H : HRel X ι ow h w) {s k : Nat} {i fi : TyI} (f : TF P s i) {fs : Array Field} (hu : i.under = .struct fs) {fd : Field} (hf : fs[k]? = some fd) (ff : TF P fd.type fi) (hz : fi.size ≠ 0) {x : Operand}
    (ho : o.op = .fieldAddr s x k) (E : EvRel ι ea er o.op.operands) (hs : sFld fd.offset x nm ea h.get = some (v, ob)) : SOk X ι ow h w nm v ob ((execOp er o).run P w) := by
  have hx := E x (by rw [ho]; simp [Op.operands])
  simp only [execOp, ho]
  simp only [sFld] at hs
  generalize ea x = a at *
  generalize er x = b at *
  cases hx with
  | ptr n off l hl =>
    cases hs
    have e : (⟨l.blk, l.base + off, none⟩ : Addr).add fd.offset = ⟨l.blk, l.base + (off + fd.offset), none⟩ := by rw [addr_add]; congr 1; omega
    rw [run_v (x := .pointer (some ((⟨l.blk, l.base + off, none⟩ : Addr).add fd.offset))) (w' := w) (by simp [Instr.fieldAt, f.under, hu, hf, Instr.sureAddr, fieldPlace, ff.size, hz])]
    rw [e]
    exact SOk.val H (.ptr n _ l hl)
  | _ => cases hs
end Go.AM

/- Each simple operation of the machine is the model's: the fifth part: indexes, slices, parts of values. -/
namespace Go.AM
variable {P : Program} {X : Opq} {ι : Emb} {ow : Own} {h : Heap} {w : World} {nm : Nat} {ea er : Operand → Value} {v : Value} {ob : Option AObj} {o : Oper}

/-- a part of a struct or an array that is a value -/
theorem run_part {t : Nat} {i : TyI} (f : TF P t i) {cs cs' : Array Value} {off : Nat} {v : Value} (ha : LRel ι cs.toList cs'.toList) (hp : partV i.agg cs.toList off i.cells = some v) :
    ∃ v', (part t cs' off).run P w = .ok v' w ∧ VRel ι v v' := by
  unfold partV at hp
  unfold part
  cases e : i.agg with
  | true =>
    have hc : i.cells = i.size := by simp [TyI.cells, e]
    rw [e, hc] at hp
    dsimp only at hp
    cases hs : subO off i.size cs.toList with
    | none => rw [hs] at hp; cases hp
    | some r =>
      rw [hs] at hp; cases hp
      obtain ⟨h1, rfl⟩ := subO_eq _ _ _ _ hs
      refine ⟨.agg (cs'.extract off (off + i.size)), by simp [f.agg, f.size, e], ?_⟩
      have : (cs'.extract off (off + i.size)) = ⟨(cs'.toList.drop off).take i.size⟩ := by
        apply Array.ext'; simp [Array.toList_extract]
      rw [this]
      exact VRel.mkAgg ((ha.drop off).take i.size)
  | false =>
    rw [e] at hp
    dsimp only at hp
    rw [nth_eq] at hp
    obtain ⟨v', hv', hr⟩ := ha.get hp
    have : cs'[off]? = some v' := by simpa using hv'
    exact ⟨v', by simp [f.agg, e, this], hr⟩
theorem ok_fldv (H : HRel X ι ow h w) {t k : Nat} {i fi : TyI} (f : TF P t i) {fs : Array Field} (hu : i.under = .struct fs) {fd : Field} (hf : fs[k]? = some fd) (ff : TF P fd.type fi) {x : Operand}
    (ho : o.op = .field t x k) (E : EvRel ι ea er o.op.operands) (hs : sFldv fi.agg fd.offset fi.cells x nm ea h.get = some (v, ob)) : SOk X ι ow h w nm v ob ((execOp er o).run P w) := by
  have hx := E x (by rw [ho]; simp [Op.operands])
  simp only [execOp, ho]
  simp only [sFldv] at hs
  generalize ea x = a at *
  generalize er x = b at *
  cases hx with
  | agg cs cs' ha ra =>
    dsimp only at hs
    cases hp : partV fi.agg cs.toList fd.offset fi.cells with
    | none => rw [hp] at hs; cases hs
    | some u =>
      rw [hp] at hs; cases hs
      obtain ⟨v', h1, h2⟩ := run_part (w := w) ff (LRel.of_arr ha ra) hp
      rw [run_v (x := v') (w' := w) (by simp [Instr.field, f.under, hu, hf, asAgg, h1])]
      exact SOk.val H h2
  | _ => cases hs
theorem asIntOf_run (k : IntKind) (n : Int) : (asIntOf (.int k n)).run P w = .ok (k, n) w := rfl
theorem ok_ixa (H : HRel X ι ow h w) {t len e : Nat} {i ei : TyI} (f : TF P t i) (hu : i.under = .array len e) (fe : TF P e ei) {x ix : Operand}
    (ho : o.op = .indexAddr t x ix) (E : EvRel ι ea er o.op.operands) (hs : sIxa len ei.size x ix nm ea h.get = some (v, ob)) : SOk X ι ow h w nm v ob ((execOp er o).run P w) := by
  have hx := E x (by rw [ho]; simp [Op.operands])
  have hi := E ix (by rw [ho]; simp [Op.operands])
  simp only [execOp, ho]
  simp only [sIxa] at hs
  generalize ea x = a at *
  generalize er x = b at *
  generalize ea ix = c at *
  generalize er ix = d at *
  cases hx with
  | ptr n off l hl => cases hi with
    | int k m => cases m with
      | negSucc m => cases hs
      | ofNat m =>
        dsimp only at hs
        cases hb : Nat.blt m len with
        | false => rw [hb] at hs; cases hs
        | true =>
          rw [hb] at hs; cases hs
          have hlt := blt_lt hb
          have e : (⟨l.blk, l.base + off, none⟩ : Addr).add (m * ei.size) = ⟨l.blk, l.base + (off + m * ei.size), none⟩ := by rw [addr_add]; congr 1; omega
          have hc : (0 : Int) ≤ Int.ofNat m ∧ Int.ofNat m < (len : Int) := ⟨Int.natCast_nonneg m, by show (m : Int) < (len : Int); omega⟩
          have hr : (Instr.indexAt t (.pointer (some ⟨l.blk, l.base + off, none⟩)) (.int k (Int.ofNat m))).run P w = .ok (.pointer (some ⟨l.blk, l.base + (off + m * ei.size), none⟩)) w := by
            simp only [Instr.indexAt, Sem.run_bind, asIntOf_run, Result.andThen_ok, f.under, hu, Instr.sureAddr, Sem.run_pure, Sem.run_ite]
            rw [if_pos hc]
            simp only [Sem.run_bind, fe.size, Result.andThen_ok, Sem.run_pure]
            rw [show (Int.ofNat m).toNat = m from rfl, e]
          rw [run_v hr]
          exact SOk.val H (.ptr n _ l hl)
    | _ => cases hs
  | _ => cases hs
theorem ok_ixs (H : HRel X ι ow h w) {t e : Nat} {i ei : TyI} (f : TF P t i) (hu : i.under = .slice e) (fe : TF P e ei) {x ix : Operand}
    (ho : o.op = .indexAddr t x ix) (E : EvRel ι ea er o.op.operands) (hs : sIxs ei.size x ix nm ea h.get = some (v, ob)) : SOk X ι ow h w nm v ob ((execOp er o).run P w) := by
  have hx := E x (by rw [ho]; simp [Op.operands])
  have hi := E ix (by rw [ho]; simp [Op.operands])
  simp only [execOp, ho]
  simp only [sIxs] at hs
  generalize ea x = a at *
  generalize er x = b at *
  generalize ea ix = c at *
  generalize er ix = d at *
  have key : ∀ (l : Loc) (off len cap m : Nat) (k : IntKind), m < len → (Instr.indexAt t (.slice (some ⟨l.blk, l.base + off, none⟩) len cap) (.int k (Int.ofNat m))).run P w = .ok (.pointer (some ⟨l.blk, l.base + (off + m * ei.size), none⟩)) w := by
    intro l off len cap m k hlt
    have e' : (⟨l.blk, l.base + off, none⟩ : Addr).add (m * ei.size) = ⟨l.blk, l.base + (off + m * ei.size), none⟩ := by rw [addr_add]; congr 1; omega
    have hc : (0 : Int) ≤ Int.ofNat m ∧ Int.ofNat m < (len : Int) := ⟨Int.natCast_nonneg m, by show (m : Int) < (len : Int); omega⟩
    simp only [Instr.indexAt, Sem.run_bind, asIntOf_run, Result.andThen_ok, f.under, hu, Sem.run_pure, Sem.run_ite]
    rw [if_pos hc]
    simp only [Sem.run_bind, fe.size, Result.andThen_ok, Sem.run_pure]
    rw [show (Int.ofNat m).toNat = m from rfl, e']
  cases hx with
  | slEx n off len cap l hl => cases hi with
    | int k m => cases m with
      | negSucc m => cases hs
      | ofNat m =>
        dsimp only at hs
        cases hb : Nat.blt m len with
        | false => rw [hb] at hs; cases hs
        | true => rw [hb] at hs; cases hs; rw [run_v (key l off len cap m k (blt_lt hb))]; exact SOk.val H (.ptr n _ l hl)
    | _ => cases hs
  | slGr n off len cap cap' l hl hlen hc hbd => cases hi with
    | int k m => cases m with
      | negSucc m => cases hs
      | ofNat m =>
        change (match Nat.blt m len with | true => some (Value.pointer (some ⟨n, off + m * ei.size, none⟩), none) | false => none) = some (v, ob) at hs
        cases hb : Nat.blt m len with
        | false => rw [hb] at hs; cases hs
        | true => rw [hb] at hs; cases hs; rw [run_v (key l off len cap' m k (blt_lt hb))]; exact SOk.val H (.ptr n _ l hl)
    | _ => cases hs
  | _ => cases hs
theorem ok_ixv (H : HRel X ι ow h w) {t len e : Nat} {i ei : TyI} (f : TF P t i) (hu : i.under = .array len e) (fe : TF P e ei) {x ix : Operand} (hce : ei.cells = ei.size ∨ ei.agg = false)
    (ho : o.op = .index t x ix) (E : EvRel ι ea er o.op.operands) (hs : sIxv len ei.size ei.agg x ix nm ea h.get = some (v, ob)) : SOk X ι ow h w nm v ob ((execOp er o).run P w) := by
  have hx := E x (by rw [ho]; simp [Op.operands])
  have hi := E ix (by rw [ho]; simp [Op.operands])
  simp only [execOp, ho]
  simp only [sIxv] at hs
  generalize ea x = a at *
  generalize er x = b at *
  generalize ea ix = c at *
  generalize er ix = d at *
  cases hx with
  | agg cs cs' ha ra => cases hi with
    | int k m => cases m with
      | negSucc m => cases hs
      | ofNat m =>
        dsimp only at hs
        cases hb : Nat.blt m len with
        | false => rw [hb] at hs; cases hs
        | true =>
          rw [hb] at hs
          dsimp only at hs
          have hlt := blt_lt hb
          have hp' : partV ei.agg cs.toList (Nat.mul m ei.size) ei.size = partV ei.agg cs.toList (m * ei.size) ei.cells := by
            rcases hce with h | h
            · rw [h]; rfl
            · rw [h]; rfl
          rw [hp'] at hs
          cases hp : partV ei.agg cs.toList (m * ei.size) ei.cells with
          | none => rw [hp] at hs; cases hs
          | some u =>
            rw [hp] at hs; cases hs
            obtain ⟨v', h1, h2⟩ := run_part (w := w) fe (LRel.of_arr ha ra) hp
            have hc : (0 : Int) ≤ Int.ofNat m ∧ Int.ofNat m < (len : Int) := ⟨Int.natCast_nonneg m, by show (m : Int) < (len : Int); omega⟩
            have hr : (Instr.index t (.agg cs') (.int k (Int.ofNat m))).run P w = .ok v' w := by
              simp only [Instr.index, Sem.run_bind, asIntOf_run, Result.andThen_ok, f.under, hu, Sem.run_ite]
              rw [if_pos hc]
              simp only [Sem.run_bind, fe.size, Result.andThen_ok]
              rw [show (Int.ofNat m).toNat = m from rfl, h1]
            rw [run_v hr]
            exact SOk.val H h2
    | _ => cases hs
  | _ => cases hs
theorem byteAt_eq : ∀ (l : List UInt8) (n : Nat), byteAt l n = (l[n]?).map fun b => .int .u8 (Int.ofNat b.toNat)
  | [], n => by cases n <;> rfl
  | b :: l, 0 => rfl
  | b :: l, n + 1 => by rw [List.getElem?_cons_succ]; exact byteAt_eq l n
theorem ok_ixstr (H : HRel X ι ow h w) {t : Nat} {i : TyI} (f : TF P t i) (hu : i.under = .string) {x ix : Operand}
    (ho : o.op = .index t x ix) (E : EvRel ι ea er o.op.operands) (hs : sIxstr x ix nm ea h.get = some (v, ob)) : SOk X ι ow h w nm v ob ((execOp er o).run P w) := by
  have hx := E x (by rw [ho]; simp [Op.operands])
  have hi := E ix (by rw [ho]; simp [Op.operands])
  simp only [execOp, ho]
  simp only [sIxstr] at hs
  generalize ea x = a at *
  generalize er x = b at *
  generalize ea ix = c at *
  generalize er ix = d at *
  cases hx with
  | string s => cases hi with
    | int k m => cases m with
      | negSucc m => cases hs
      | ofNat m =>
        dsimp only at hs
        rw [byteAt_eq] at hs
        cases hb : s.data.toList[m]? with
        | none => rw [hb] at hs; cases hs
        | some u =>
          rw [hb] at hs; cases hs
          have hlt : m < s.data.size := by have := (List.getElem?_eq_some_iff.1 hb).1; simpa using this
          have hg : s[m]? = some u := by
            have h1 : s.data[m]? = some u := by simpa using hb
            have h2 : s.data[m] = u := by rw [Array.getElem?_eq_getElem hlt] at h1; exact Option.some.inj h1
            rw [getElem?_pos s m hlt]
            exact congrArg some h2
          have hc : (0 : Int) ≤ Int.ofNat m := Int.natCast_nonneg m
          have hr : (Instr.index t (.string s) (.int k (Int.ofNat m))).run P w = .ok (.int .u8 (Int.ofNat u.toNat)) w := by
            simp only [Instr.index, Sem.run_bind, asIntOf_run, Result.andThen_ok, f.under, hu]
            rw [if_pos hc, show (Int.ofNat m).toNat = m from rfl, hg]
            rfl
          rw [run_v hr]
          exact SOk.val H (.int _ _)
    | _ => cases hs
  | _ => cases hs
end Go.AM

/- Each simple operation of the machine is the model's: the sixth part: slices, makings, strings and bytes. -/
namespace Go.AM
variable {P : Program} {X : Opq} {ι : Emb} {ow : Own} {h : Heap} {w : World} {nm : Nat} {ea er : Operand → Value} {v : Value} {ob : Option AObj} {o : Oper}

/-! ### bounds -/
/-- a bound, on both sides -/
def BRel (ι : Emb) (x y : Option Value) : Prop := match x, y with
  | none, none => True
  | some a, some b => VRel ι a b
  | _, _ => False
theorem sliceB_run {x y : Option Value} {d top top' n : Nat} (hr : BRel ι x y) (hs : sliceB x d top = some n) (ht : top ≤ top') :
    (x = none ∧ y = none ∧ n = d) ∨ (∃ k i, y = some (.int k (Int.ofNat i)) ∧ n = i ∧ i ≤ top ∧ ∀ code, (Instr.sliceBound (.int k (Int.ofNat i)) top' code).run P w = .ok i w) := by
  cases x with
  | none => cases y with
    | none => cases hs; exact .inl ⟨rfl, rfl, rfl⟩
    | some b => exact hr.elim
  | some a => cases y with
    | none => exact hr.elim
    | some b =>
      have hr' : VRel ι a b := hr
      cases hr' with
      | int k m => cases m with
        | negSucc m => cases hs
        | ofNat i =>
          simp only [sliceB] at hs
          cases hb : Nat.ble i top with
          | false => rw [hb] at hs; cases hs
          | true =>
            rw [hb] at hs; cases hs
            have hle := Nat.le_of_ble_eq_true hb
            refine .inr ⟨k, _, rfl, rfl, hle, fun code => ?_⟩
            have hc : (0 : Int) ≤ Int.ofNat n ∧ Int.ofNat n ≤ (top' : Int) := ⟨Int.natCast_nonneg n, by show (n : Int) ≤ (top' : Int); omega⟩
            simp only [Instr.sliceBound, Sem.run_bind, asIntOf_run, Result.andThen_ok]
            rw [if_pos hc]
            rfl
      | _ => cases hs
/-- all three bounds: m is the true one, m0 what the machine takes for it -/
theorem bounds_run {isS : Bool} {len cap cap' : Nat} {lo hi mx lo' hi' mx' : Option Value} {l hh m : Nat} (hcap : cap ≤ cap') (r1 : BRel ι lo lo') (r2 : BRel ι hi hi') (r3 : BRel ι mx mx') (hmh : mx.isSome = true → hi.isSome = true)
    (h1 : sliceB mx cap cap = some m) (h2 : sliceB hi len m = some hh) (h3 : sliceB lo 0 hh = some l) :
    (Instr.sliceBounds isS len cap' lo' hi' mx').run P w = .ok (l, hh, if mx.isSome then m else cap') w ∧ l ≤ hh ∧ hh ≤ max m len ∧ (mx.isSome = true → m ≤ cap) ∧ (mx.isSome = false → m = cap) := by
  have hlo : ∀ (code : BoundsCode), (match lo' with
      | some v => Instr.sliceBound v hh code
      | none => pure 0 : Sem Nat).run P w = .ok l w ∧ l ≤ hh := by
    intro code
    rcases sliceB_run (P := P) (w := w) r1 h3 (Nat.le_refl _) with ⟨rfl, rfl, rfl⟩ | ⟨k, i, rfl, rfl, hle, hrun⟩
    · exact ⟨rfl, Nat.zero_le _⟩
    · exact ⟨hrun code, hle⟩
  rcases sliceB_run (P := P) (w := w) r3 h1 hcap with ⟨rfl, rfl, rfl⟩ | ⟨k, i, rfl, rfl, hle, hrun⟩
  · rcases sliceB_run (P := P) (w := w) r2 h2 hcap with ⟨rfl, rfl, rfl⟩ | ⟨k2, i2, rfl, rfl, hle2, hrun2⟩
    · obtain ⟨g1, g2⟩ := hlo .sliceB
      refine ⟨?_, g2, by omega, by simp, by simp⟩
      cases lo' with
      | none =>
        have e : 0 = l := by simpa using g1
        subst e
        simp only [Instr.sliceBounds, Sem.run_bind, Result.andThen_ok, Sem.run_pure]; rfl
      | some q =>
        simp only at g1
        simp only [Instr.sliceBounds, Sem.run_bind, Result.andThen_ok, Sem.run_pure, Option.isSome_none, Bool.false_eq_true, if_false, g1]
    · obtain ⟨g1, g2⟩ := hlo .sliceB
      refine ⟨?_, g2, by omega, by simp, by simp⟩
      cases lo' with
      | none =>
        have e : 0 = l := by simpa using g1
        subst e
        simp only [Instr.sliceBounds, Sem.run_bind, hrun2, Result.andThen_ok, Sem.run_pure]; rfl
      | some q =>
        simp only at g1
        simp only [Instr.sliceBounds, Sem.run_bind, hrun2, Result.andThen_ok, Sem.run_pure, Option.isSome_none, Bool.false_eq_true, if_false, g1]
  · have hsm : mx.isSome = true := by
      cases mx with
      | none => exact r3.elim
      | some _ => rfl
    obtain ⟨hv, rfl⟩ := Option.isSome_iff_exists.1 (hmh hsm)
    rcases sliceB_run (P := P) (w := w) r2 h2 (Nat.le_refl _) with ⟨he, _, _⟩ | ⟨k2, i2, rfl, rfl, hle2, hrun2⟩
    · cases he
    · obtain ⟨g1, g2⟩ := hlo .slice3C
      refine ⟨?_, g2, by omega, fun _ => hle, fun e => by rw [hsm] at e; cases e⟩
      rw [if_pos hsm]
      cases lo' with
      | none =>
        have e : 0 = l := by simpa using g1
        subst e
        simp only [Instr.sliceBounds, Sem.run_bind, hrun, hrun2, Result.andThen_ok, Sem.run_pure]
      | some q =>
        simp only at g1
        simp only [Instr.sliceBounds, Sem.run_bind, hrun, hrun2, Result.andThen_ok, Sem.run_pure, Option.isSome_some, if_true, g1]

/-! ### slices -/
theorem BRel.oev {ea er : Operand → Value} {x : Option Operand} (h : ∀ y, x = some y → VRel ι (ea y) (er y)) : BRel ι (oev ea x) (x.map er) := by
  cases x with
  | none => exact True.intro
  | some y => exact h y rfl
theorem oev_some {ea : Operand → Value} {x : Option Operand} : (oev ea x).isSome = x.isSome := by cases x <;> rfl
/-- the machine's slice of something at an address is the model's -/
theorem sliceOf_run {a : Value} {x : Option Addr} {len cap esz : Nat} {lo hi mx lo' hi' mx' : Option Value} {v : Value} (hx : VRel ι (.slice x len cap) a) (r1 : BRel ι lo lo') (r2 : BRel ι hi hi') (r3 : BRel ι mx mx')
    (hmh : mx.isSome = true → hi.isSome = true) (hs : sliceOf x len cap esz lo hi mx = some v) :
    ∃ x' cap' l hh m, a = .slice x' len cap' ∧ (∀ (isS : Bool), (Instr.sliceBounds isS len cap' lo' hi' mx').run P w = .ok (l, hh, m) w) ∧ VRel ι v (.slice (if m = l then x' else x'.map (·.add (l * esz))) (hh - l) (m - l)) := by
  cases hx with
  | slNil len cap =>
    unfold sliceOf at hs
    dsimp only at hs
    cases h1 : sliceB mx cap cap with
    | none => rw [h1] at hs; cases hs
    | some m =>
      rw [h1] at hs; dsimp only at hs
      cases h2 : sliceB hi len m with
      | none => rw [h2] at hs; cases hs
      | some hh =>
        rw [h2] at hs; dsimp only at hs
        cases h3 : sliceB lo 0 hh with
        | none => rw [h3] at hs; cases hs
        | some l =>
          rw [h3] at hs; cases hs
          have hb := fun isS => bounds_run (P := P) (w := w) (isS := isS) (Nat.le_refl cap) r1 r2 r3 hmh h1 h2 h3
          have hm : (if mx.isSome then m else cap) = m := by
            cases e : mx.isSome with
            | true => rfl
            | false => exact ((hb true).2.2.2.2 e).symm
          refine ⟨none, cap, l, hh, m, rfl, fun isS => by have := (hb isS).1; rwa [hm] at this, ?_⟩
          have : (if m = l then (none : Option Addr) else (none : Option Addr).map (·.add (l * esz))) = none := by split <;> rfl
          rw [this]
          exact .slNil _ _
  | slEx n off len cap lo' hl =>
    cases mx with
    | none =>
      unfold sliceOf at hs
      dsimp only at hs
      cases h2 : sliceB hi len cap with
      | none => rw [h2] at hs; cases hs
      | some hh =>
        rw [h2] at hs; dsimp only at hs
        cases h3 : sliceB lo 0 hh with
        | none => rw [h3] at hs; cases hs
        | some l =>
          rw [h3] at hs; simp only [fitS] at hs; cases hs
          have hb := fun isS => bounds_run (P := P) (w := w) (isS := isS) (mx := none) (Nat.le_refl cap) r1 r2 r3 hmh rfl h2 h3
          refine ⟨_, cap, l, hh, cap, rfl, fun isS => (hb isS).1, ?_⟩
          unfold cutAt
          by_cases e : cap = l
          · subst e; rw [beq_same]; simp only [if_true, Nat.sub_self]
            exact .slEx n off _ _ _ hl
          · rw [beq_ne e, if_neg e]
            simp only [Option.map_some, addr_add, Nat.add_assoc]
            exact .slEx n _ _ _ _ hl
    | some mv =>
      unfold sliceOf at hs
      dsimp only at hs
      cases h1 : sliceB (some mv) cap cap with
      | none => rw [h1] at hs; cases hs
      | some m =>
        rw [h1] at hs; dsimp only at hs
        cases h2 : sliceB hi len m with
        | none => rw [h2] at hs; cases hs
        | some hh =>
          rw [h2] at hs; dsimp only at hs
          cases h3 : sliceB lo 0 hh with
          | none => rw [h3] at hs; cases hs
          | some l =>
            rw [h3] at hs; cases hs
            have hb := fun isS => bounds_run (P := P) (w := w) (isS := isS) (Nat.le_refl cap) r1 r2 r3 hmh h1 h2 h3
            refine ⟨_, cap, l, hh, m, rfl, fun isS => (hb isS).1, ?_⟩
            unfold cutAt
            by_cases e : m = l
            · subst e; rw [beq_same]; simp only [if_true, Nat.sub_self]
              exact .slEx n off _ _ _ hl
            · rw [beq_ne e, if_neg e]
              simp only [Option.map_some, addr_add, Nat.add_assoc]
              exact .slEx n _ _ _ _ hl
  | slGr n off len cap cap' lc hl hlen hc hbd =>
    cases mx with
    | none =>
      change (match sliceB hi len cap with
        | none => none
        | some h => match sliceB lo 0 h with
          | none => none
          | some l => match fitS esz (some (lc.esz + 1)) with
            | true => some (cutAt n off esz (some (lc.esz + 1)) l h cap)
            | false => none) = some v at hs
      cases h2 : sliceB hi len cap with
      | none => rw [h2] at hs; cases hs
      | some hh =>
        rw [h2] at hs; dsimp only at hs
        cases h3 : sliceB lo 0 hh with
        | none => rw [h3] at hs; cases hs
        | some l =>
          rw [h3] at hs; simp only [fitS] at hs
          cases he : Nat.beq lc.esz esz with
          | false => rw [he] at hs; cases hs
          | true =>
            rw [he] at hs; cases hs
            have hesz : lc.esz = esz := Nat.eq_of_beq_eq_true he
            have hb := fun isS => bounds_run (P := P) (w := w) (isS := isS) (mx := none) hc r1 r2 r3 hmh rfl h2 h3
            have hle := (hb true).2.1
            have hhc : hh ≤ cap := by have := (hb true).2.2.1; omega
            refine ⟨_, cap', l, hh, cap', rfl, fun isS => (hb isS).1, ?_⟩
            unfold cutAt
            by_cases e : cap = l
            · subst e; rw [beq_same]
              have e0 : hh - cap = 0 := by omega
              rw [e0]
              obtain ⟨a, ha⟩ : ∃ a, (if cap' = cap then some (⟨lc.blk, lc.base + off, none⟩ : Addr) else (some (⟨lc.blk, lc.base + off, none⟩ : Addr)).map (·.add (cap * esz))) = some a := by
                split
                · exact ⟨_, rfl⟩
                · exact ⟨_, rfl⟩
              rw [ha]
              exact .slEmp _ _
            · rw [beq_ne e, if_neg (by omega)]
              simp only [Option.map_some, addr_add, Nat.add_assoc]
              refine .slGr n (off + l * esz) (hh - l) (cap - l) (cap' - l) lc hl (by omega) (by omega) ?_
              rw [Nat.sub_mul, hesz]
              rw [hesz] at hbd
              have : l * esz ≤ cap' * esz := Nat.mul_le_mul_right _ (by omega)
              omega
    | some mv =>
      change (match sliceB (some mv) cap cap with
        | none => none
        | some m => match sliceB hi len m with
          | none => none
          | some h => match sliceB lo 0 h with
            | none => none
            | some l => some (cutAt n off esz none l h m)) = some v at hs
      cases h1 : sliceB (some mv) cap cap with
      | none => rw [h1] at hs; cases hs
      | some m =>
        rw [h1] at hs; dsimp only at hs
        cases h2 : sliceB hi len m with
        | none => rw [h2] at hs; cases hs
        | some hh =>
          rw [h2] at hs; dsimp only at hs
          cases h3 : sliceB lo 0 hh with
          | none => rw [h3] at hs; cases hs
          | some l =>
            rw [h3] at hs; cases hs
            have hb := fun isS => bounds_run (P := P) (w := w) (isS := isS) hc r1 r2 r3 hmh h1 h2 h3
            refine ⟨_, cap', l, hh, m, rfl, fun isS => (hb isS).1, ?_⟩
            unfold cutAt
            by_cases e : m = l
            · subst e; rw [beq_same]; simp only [if_true, Nat.sub_self]
              exact .slEx n off _ _ _ hl
            · rw [beq_ne e, if_neg e]
              simp only [Option.map_some, addr_add, Nat.add_assoc]
              exact .slEx n _ _ _ _ hl
  | slEmp a cap =>
    cases mx with
    | some mv => cases hs
    | none =>
      change (match sliceB hi 0 0 with
        | none => none
        | some h => match sliceB lo 0 h with
          | none => none
          | some _ => some (Value.slice (some ⟨0, 0, some 0⟩) 0 0)) = some v at hs
      cases h2 : sliceB hi 0 0 with
      | none => rw [h2] at hs; cases hs
      | some hh =>
        rw [h2] at hs; dsimp only at hs
        cases h3 : sliceB lo 0 hh with
        | none => rw [h3] at hs; cases hs
        | some l =>
          rw [h3] at hs; cases hs
          have hb := fun isS => bounds_run (P := P) (w := w) (isS := isS) (mx := none) (cap := 0) (cap' := cap) (Nat.zero_le _) r1 r2 r3 hmh rfl h2 h3
          have hle := (hb true).2.1
          have hhc : hh ≤ 0 := by have := (hb true).2.2.1; omega
          refine ⟨_, cap, l, hh, cap, rfl, fun isS => (hb isS).1, ?_⟩
          have e0 : hh - l = 0 := by omega
          rw [e0]
          obtain ⟨b, hb'⟩ : ∃ b, (if cap = l then some a else (some a).map (·.add (l * esz))) = some b := by
            split
            · exact ⟨_, rfl⟩
            · exact ⟨_, rfl⟩
          rw [hb']
          exact .slEmp _ _
theorem ok_slc (H : HRel X ι ow h w) {t e : Nat} {i ei : TyI} (f : TF P t i) (hu : i.under = .slice e) (fe : TF P e ei) {x : Operand} {lo hi mx : Option Operand} (hm : mx.isSome = true → hi.isSome = true)
    (ho : o.op = .slice t x lo hi mx) (E : EvRel ι ea er o.op.operands) (hs : sSlc ei.size x lo hi mx nm ea h.get = some (v, ob)) : SOk X ι ow h w nm v ob ((execOp er o).run P w) := by
  have hx := E x (by rw [ho]; simp [Op.operands])
  have r1 : BRel ι (oev ea lo) (lo.map er) := BRel.oev fun y hy => E y (by rw [ho]; simp [Op.operands, hy])
  have r2 : BRel ι (oev ea hi) (hi.map er) := BRel.oev fun y hy => E y (by rw [ho]; simp [Op.operands, hy])
  have r3 : BRel ι (oev ea mx) (mx.map er) := BRel.oev fun y hy => E y (by rw [ho]; simp [Op.operands, hy])
  simp only [execOp, ho]
  simp only [sSlc] at hs
  generalize ea x = a at *
  generalize er x = b at *
  cases a with
  | slice p len cap =>
    dsimp only at hs
    cases hv : sliceOf p len cap ei.size (oev ea lo) (oev ea hi) (oev ea mx) with
    | none => rw [hv] at hs; cases hs
    | some u =>
      rw [hv] at hs; cases hs
      obtain ⟨x', cap', l, hh, m, rfl, hb, hr⟩ := sliceOf_run (P := P) (w := w) hx r1 r2 r3 (by rw [oev_some, oev_some]; exact hm) hv
      rw [run_v (x := .slice (if m = l then x' else x'.map (·.add (l * ei.size))) (hh - l) (m - l)) (w' := w) (by simp [Instr.sliceAt, f.under, hu, Instr.slice, hb, fe.size])]
      exact SOk.val H hr
  | _ => cases hs
theorem ok_slarr (H : HRel X ι ow h w) {t n e : Nat} {i ei : TyI} (f : TF P t i) (hu : i.under = .array n e) (fe : TF P e ei) {x : Operand} {lo hi mx : Option Operand} (hm : mx.isSome = true → hi.isSome = true)
    (ho : o.op = .slice t x lo hi mx) (E : EvRel ι ea er o.op.operands) (hs : sSlarr n ei.size x lo hi mx nm ea h.get = some (v, ob)) : SOk X ι ow h w nm v ob ((execOp er o).run P w) := by
  have hx := E x (by rw [ho]; simp [Op.operands])
  have r1 : BRel ι (oev ea lo) (lo.map er) := BRel.oev fun y hy => E y (by rw [ho]; simp [Op.operands, hy])
  have r2 : BRel ι (oev ea hi) (hi.map er) := BRel.oev fun y hy => E y (by rw [ho]; simp [Op.operands, hy])
  have r3 : BRel ι (oev ea mx) (mx.map er) := BRel.oev fun y hy => E y (by rw [ho]; simp [Op.operands, hy])
  simp only [execOp, ho]
  simp only [sSlarr] at hs
  generalize ea x = a at *
  generalize er x = b at *
  cases hx with
  | ptr nn off l hl =>
    dsimp only at hs
    cases hv : sliceOf (some ⟨nn, off, none⟩) n n ei.size (oev ea lo) (oev ea hi) (oev ea mx) with
    | none => rw [hv] at hs; cases hs
    | some u =>
      rw [hv] at hs; cases hs
      obtain ⟨x', cap', l', hh, m, he, hb, hr⟩ := sliceOf_run (P := P) (w := w) (VRel.slEx nn off n n l hl) r1 r2 r3 (by rw [oev_some, oev_some]; exact hm) hv
      cases he
      have hr' : (Instr.sliceAt t (.pointer (some ⟨l.blk, l.base + off, none⟩)) (lo.map er) (hi.map er) (mx.map er)).run P w = .ok (.slice (some (if m = l' then ⟨l.blk, l.base + off, none⟩ else (⟨l.blk, l.base + off, none⟩ : Addr).add (l' * ei.size))) (hh - l') (m - l')) w := by
        simp [Instr.sliceAt, f.under, hu, Instr.sureAddr, hb, fe.size]
      rw [run_v hr']
      refine SOk.val H ?_
      by_cases e : m = l'
      · rw [if_pos e] at hr ⊢; exact hr
      · rw [if_neg e] at hr ⊢; exact hr
  | _ => cases hs
end Go.AM

/- Each simple operation of the machine is the model's: the seventh part: makings out of parts, strings and bytes, least and greatest. -/
namespace Go.AM
variable {P : Program} {X : Opq} {ι : Emb} {ow : Own} {h : Heap} {w : World} {nm : Nat} {ea er : Operand → Value} {v : Value} {ob : Option AObj} {o : Oper}

theorem ok_slstr (H : HRel X ι ow h w) {t : Nat} {i : TyI} (f : TF P t i) (hu : i.under = .string) {x : Operand} {lo hi : Option Operand}
    (ho : o.op = .slice t x lo hi none) (E : EvRel ι ea er o.op.operands) (hs : sSlstr x lo hi nm ea h.get = some (v, ob)) : SOk X ι ow h w nm v ob ((execOp er o).run P w) := by
  have hx := E x (by rw [ho]; simp [Op.operands])
  have r1 : BRel ι (oev ea lo) (lo.map er) := BRel.oev fun y hy => E y (by rw [ho]; simp [Op.operands, hy])
  have r2 : BRel ι (oev ea hi) (hi.map er) := BRel.oev fun y hy => E y (by rw [ho]; simp [Op.operands, hy])
  simp only [execOp, ho]
  simp only [sSlstr] at hs
  generalize ea x = a at *
  generalize er x = b at *
  cases hx with
  | string s =>
    dsimp only at hs
    cases h2 : sliceB (oev ea hi) s.size s.size with
    | none => rw [h2] at hs; cases hs
    | some hh =>
      rw [h2] at hs; dsimp only at hs
      cases h3 : sliceB (oev ea lo) 0 hh with
      | none => rw [h3] at hs; cases hs
      | some l =>
        rw [h3] at hs; cases hs
        have hb := bounds_run (P := P) (w := w) (isS := false) (mx := none) (mx' := none) (Nat.le_refl s.size) r1 r2 True.intro (by simp) rfl h2 h3
        have hr : (Instr.sliceAt t (.string s) (lo.map er) (hi.map er) none).run P w = .ok (.string (s.extract l hh)) w := by
          simp [Instr.sliceAt, f.under, hu, Instr.slice, hb.1]
        simp only [Option.map_none]
        rw [run_v hr]
        have e : s.extract l hh = ⟨⟨(s.data.toList.drop l).take (hh - l)⟩⟩ := by
          have : (s.extract l hh).data.toList = (s.data.toList.drop l).take (hh - l) := by
            rw [ByteArray.data_extract, Array.toList_extract, List.extract_eq_take_drop]
          cases hd : s.extract l hh with
          | mk d => rw [hd] at this; cases d; simp at this; simp [this]
        rw [e]
        exact SOk.val H (.string _)
  | _ => cases hs
theorem ok_cvsb (hi : ι nm = none) {s d e : Nat} {si di ei : TyI} (fs : TF P s si) (fd : TF P d di) (fe : TF P e ei) (hd : di.under = .slice e) (he : ei.under = .int .u8) {x : Operand} (ho : o.op = .convert s d x) (E : EvRel ι ea er o.op.operands)
    (hs : sCvsb x nm ea h.get = some (v, ob)) : SOk X ι ow h w nm v ob ((execOp er o).run P w) := by
  have hx := E x (by rw [ho]; simp [Op.operands])
  simp only [execOp, ho]
  simp only [sCvsb] at hs
  generalize ea x = a at *
  generalize er x = b at *
  cases hx with
  | string z =>
    cases hs
    let cap := (Question.appendCap z.size 0 e).cut (w.tape w.drawn (.appendCap z.size 0 e))
    have hcap : z.size ≤ cap := Nat.le_add_right _ _
    let cells : Array Value := z.data.map (fun (b : UInt8) => Value.int .u8 b.toNat) ++ Array.replicate (cap - z.size) (Value.int .u8 0)
    have hsz : cells.size = cap := by
      show (z.data.map (fun (b : UInt8) => Value.int .u8 b.toNat) ++ Array.replicate (cap - z.size) (Value.int .u8 0)).size = cap
      simp only [Array.size_append, Array.size_map, Array.size_replicate]
      have : z.data.size = z.size := rfl
      omega
    let w1 : World := { w with drawn := w.drawn + 1, heap := w.heap.push (.cells cells e (cap, cap + 1)) }
    have hr : (convert s d (.string z)).run P w = .ok (.slice (some ⟨w.heap.size, 0, none⟩) z.size cap) w1 := by
      have h1 : (Conv.stringToBytes e z).run P w = .ok (.slice (some ⟨w.heap.size, 0, none⟩) z.size cap) w1 := by
        have hm : ∀ W : World, W.heap = w.heap.push (.cells cells e (0, 0)) → (markStringish ⟨w.heap.size, 0, none⟩).run P W = .ok () { W with heap := w.heap.push (.cells cells e (cap, cap + 1)) } := by
          intro W hW
          have hsh : W.shape? w.heap.size = some (e, cap) := by simp [World.shape?, hW, hsz]
          unfold markStringish
          simp only [Sem.run_bind, run_shape, Result.andThen_ok, hsh, run_freeze]
          congr 1
          unfold World.freeze
          simp only [Nat.one_ne_zero, if_false]
          congr 1
          rw [hW]
          apply Array.ext
          · simp
          · intro j h1 h2
            rw [Array.getElem_modify]
            by_cases hj : w.heap.size = j
            · subst hj; simp
            · have : j < w.heap.size := by simp at h1; omega
              simp [hj, Array.getElem_push_lt this]
        unfold Conv.stringToBytes
        simp only [Sem.run_bind, run_choose, Question.forced, Bool.false_eq_true, if_false, Result.andThen_ok, newRow, run_newObj, Sem.run_pure]
        rw [hm _ rfl]
        rfl
      simp [convert, fs.under, fd.under, fe.under, hd, he, h1]
    rw [run_v hr]
    refine ⟨_, w1, rfl, rfl, rfl, ⟨w.heap.size, 0, cap, 1⟩, _, rfl, .slGr nm 0 z.size z.size cap _ (upd_same _ _ _) (Nat.le_refl _) hcap (by simp), ?_⟩
    refine ⟨fun b => Iff.rfl, cells, e, (cap, cap + 1), by simp [w1], hsz, ?_, .inr rfl, fun j u hj => ?_, rfl⟩
    · simp only [Nat.zero_add]; unfold byteVs; simp; exact hcap
    · unfold byteVs at hj
      rw [List.getElem?_map] at hj
      cases hq : z.data.toList[j]? with
      | none => rw [hq] at hj; cases hj
      | some q =>
        rw [hq] at hj; cases hj
        have hlt : j < z.data.size := by have := (List.getElem?_eq_some_iff.1 hq).1; simpa using this
        refine ⟨.int .u8 (Int.ofNat q.toNat), ?_, .int _ _⟩
        simp only [Nat.zero_add]
        show (z.data.map (fun (b : UInt8) => Value.int .u8 b.toNat) ++ Array.replicate (cap - z.size) (Value.int .u8 0))[j]? = _
        rw [Array.getElem?_append_left (by simpa using hlt), Array.getElem?_map]
        have : z.data[j]? = some q := by simpa using hq
        rw [this]; rfl
  | _ => cases hs
end Go.AM

/- Each simple operation of the machine is the model's: the eighth part: parts that are filled in, rows that are made. -/
namespace Go.AM
variable {P : Program} {X : Opq} {ι : Emb} {ow : Own} {h : Heap} {w : World} {nm : Nat} {ea er : Operand → Value} {v : Value} {ob : Option AObj} {o : Oper}

theorem setAll_list (off : Nat) : ∀ (vs : List Value) (k : Nat) (cs : Array Value), off + k + vs.length ≤ cs.size →
    ((vs.zipIdx k).foldl (fun (cs : Array Value) (p : Value × Nat) => cs.setIfInBounds (off + p.2) p.1) cs).toList = cs.toList.take (off + k) ++ vs ++ cs.toList.drop (off + k + vs.length)
  | [], k, cs, _ => by simp
  | v :: vs, k, cs, hl => by
    simp at hl
    simp only [List.zipIdx_cons, List.foldl_cons]
    rw [setAll_list off vs (k + 1) _ (by simp; omega)]
    have e := list_seg_step cs.toList (off + k) v vs (by simp; omega)
    simpa [Array.toList_setIfInBounds, Nat.add_assoc] using e
theorem setAll (off : Nat) (v : Array Value) (cs : Array Value) (hl : off + v.size ≤ cs.size) :
    (v.zipIdx.foldl (fun cs (p : Value × Nat) => cs.setIfInBounds (off + p.2) p.1) cs).toList = cs.toList.take off ++ v.toList ++ cs.toList.drop (off + v.size) := by
  have := setAll_list off v.toList 0 cs (by simpa using hl)
  rw [← Array.foldl_toList, Array.toList_zipIdx]
  simpa using this
/-- parts that are filled in -/
theorem fill_rel {place : Nat → Option (Nat × Nat)} : ∀ (ps : List (Nat × Nat × Operand)) (qs : List (Nat × Value)) (c : List Value) (c' : Array Value) (r : List Value), LRel ι c c'.toList →
    All2 (fun p (q : Nat × Value) => place q.1 = some (p.1, p.2.1) ∧ q.2 = er p.2.2 ∧ VRel ι (ea p.2.2) (er p.2.2)) ps qs → fillL ea ps c = some r →
    ∃ r', Instr.fill place c' qs = some r' ∧ LRel ι r r'.toList
  | _, _, c, c', r, hc, .nil, hf => by
    have : some c = some r := hf
    cases this
    exact ⟨c', rfl, hc⟩
  | _, _, c, c', r, hc, .cons (a := p) (b := q) (s := ps) (t := qs) ⟨h1, h2, h3⟩ hs, hf => by
    obtain ⟨off, size, x⟩ := p
    obtain ⟨i, u⟩ := q
    dsimp only at h1 h2 h3
    subst h2
    have hf' : (match Nat.beq (vcells (ea x)).length size with
      | true => match spliceO off (vcells (ea x)) c with
        | some c => fillL ea ps c
        | none => none
      | false => none) = some r := hf
    cases e1 : Nat.beq (vcells (ea x)).length size with
    | false => rw [e1] at hf'; cases hf'
    | true =>
      rw [e1] at hf'; dsimp only at hf'
      have hsz : (vcells (ea x)).length = size := Nat.eq_of_beq_eq_true e1
      cases e2 : spliceO off (vcells (ea x)) c with
      | none => rw [e2] at hf'; cases hf'
      | some c2 =>
        rw [e2] at hf'; dsimp only at hf'
        obtain ⟨hb, rfl⟩ := spliceO_eq _ _ _ _ e2
        have hcl := h3.cells
        have hlen := hcl.length
        have hlc := hc.length
        have hb' : off + (er x).cells.size ≤ c'.size := by
          have : (er x).cells.size = (vcells (ea x)).length := by rw [hlen]; simp
          have h2 : c'.size = c.length := by rw [hlc]; simp
          omega
        have hs2 := setAll off (er x).cells c' hb'
        obtain ⟨r', g1, g2⟩ := fill_rel ps qs _ ((er x).cells.zipIdx.foldl (fun cs (p : Value × Nat) => cs.setIfInBounds (off + p.2) p.1) c') r (by
          rw [hs2]
          have : (er x).cells.size = (vcells (ea x)).length := by rw [hlen]; simp
          rw [this]
          exact ((hc.take off).append hcl).append (hc.drop _)) hs hf'
        refine ⟨r', ?_, g2⟩
        unfold Instr.fill
        rw [h1]
        dsimp only
        have hc1 : ¬ ((er x).cells.size ≠ size) := by rw [← hsz, hlen]; simp
        have hc2 : ¬ (off + (er x).cells.size > c'.size) := by omega
        rw [if_neg (by simp [hc1, hc2])]
        exact g1
theorem mapM_sizes : ∀ (fs : List Field) (g : Field → TyI), (∀ f ∈ fs, TF P f.type (g f)) → ∀ (w : World), (fs.mapM (fun f => do pure (f.offset, ← sizeOf f.type) : Field → Sem (Nat × Nat))).run P w = .ok (fs.map fun f => (f.offset, (g f).size)) w
  | [], g, _, w => rfl
  | f :: fs, g, hg, w => by
    have ih := mapM_sizes fs g (fun f hf => hg f (by simp [hf])) w
    simp only [List.mapM_cons, Sem.run_bind, (hg f (by simp)).size, Result.andThen_ok, Sem.run_pure, ih, List.map_cons]
theorem mapM_sizesA (fs : Array Field) (g : Field → TyI) (hg : ∀ f ∈ fs.toList, TF P f.type (g f)) (w : World) :
    (fs.mapM (fun f => do pure (f.offset, ← sizeOf f.type) : Field → Sem (Nat × Nat))).run P w = .ok (fs.map fun f => (f.offset, (g f).size)) w := by
  rw [Array.mapM_eq_mapM_toList]
  simp only [Sem.run_map, mapM_sizes fs.toList g hg w, Result.andThen_ok]
  congr 1
  apply Array.ext'; simp
theorem partsS_eq {ty : Ty} (hty : ∀ t i, ty t = some i → TF P t i) {fs : Array Field} {g : Field → TyI} (hg : ∀ f i, f ∈ fs.toList → ty f.type = some i → g f = i) : ∀ (l : List (Nat × Operand)) (ps : List (Nat × Nat × Operand)),
    partsS ty fs l = some ps → All2 (fun (p : Nat × Nat × Operand) (q : Nat × Operand) => (fs.map fun f => (f.offset, (g f).size))[q.1]? = some (p.1, p.2.1) ∧ q.2 = p.2.2) ps l
  | [], ps, hp => by cases hp; exact .nil
  | (i, x) :: l, ps, hp => by
    unfold partsS at hp
    cases e1 : fs[i]? with
    | none => rw [e1] at hp; cases hp
    | some f =>
      rw [e1] at hp; dsimp only at hp
      cases e2 : ty f.type with
      | none => rw [e2] at hp; cases hp
      | some fi =>
        cases e3 : partsS ty fs l with
        | none => rw [e2, e3] at hp; cases hp
        | some r =>
          rw [e2, e3] at hp; cases hp
          have hmem : f ∈ fs.toList := by
            have := Array.mem_of_getElem? e1; simpa using this
          exact .cons ⟨by rw [Array.getElem?_map, e1]; simp [hg f fi hmem e2], rfl⟩ (partsS_eq hty hg l r e3)
theorem ok_build (H : HRel X ι ow h w) {ty : Ty} (hty : ∀ t i, ty t = some i → TF P t i) {t : Nat} {i : TyI} (f : TF P t i) {fs : Array Field} (hu : i.under = .struct fs) (hall : (fs.toList.all fun f => (ty f.type).isSome) = true)
    {parts : Array (Nat × Operand)} {ps : List (Nat × Nat × Operand)} (hp : partsS ty fs parts.toList = some ps)
    (ho : o.op = .build t parts) (E : EvRel ι ea er o.op.operands) (hs : sBuild (vcells i.zero) ps nm ea h.get = some (v, ob)) : SOk X ι ow h w nm v ob ((execOp er o).run P w) := by
  simp only [execOp, ho]
  simp only [sBuild] at hs
  cases hf : fillL ea ps (vcells i.zero) with
  | none => rw [hf] at hs; cases hs
  | some c =>
    rw [hf] at hs; cases hs
    let g : Field → TyI := fun f => (ty f.type).getD ⟨.invalid, 0, 0, undef⟩
    have hg : ∀ f ∈ fs.toList, TF P f.type (g f) := fun f hf => by
      obtain ⟨j, hj⟩ := Option.isSome_iff_exists.1 (List.all_eq_true.1 hall f hf)
      have : g f = j := by show (ty f.type).getD _ = j; rw [hj]; rfl
      rw [this]; exact hty _ _ hj
    have ha := partsS_eq hty (g := g) (fun f i hf hi => by show (ty f.type).getD _ = i; rw [hi]; rfl) parts.toList ps hp
    have ha2 : All2 (fun p (q : Nat × Value) => (fs.map fun f => (f.offset, (g f).size))[q.1]? = some (p.1, p.2.1) ∧ q.2 = er p.2.2 ∧ VRel ι (ea p.2.2) (er p.2.2)) ps ((parts.map fun (i, x) => (i, er x)).toList) := by
      rw [Array.toList_map]
      have hE : ∀ q ∈ parts.toList, VRel ι (ea q.2) (er q.2) := fun q hq => E q.2 (by rw [ho]; simp [Op.operands]; exact ⟨q.1, by simpa using hq⟩)
      clear hp hf
      generalize parts.toList = l at *
      induction ha with
      | nil => exact .nil
      | cons h1 _ ih => exact .cons ⟨h1.1, by simp [h1.2], by rw [← h1.2]; exact hE _ (by simp)⟩ (ih (fun q hq => hE q (by simp [hq])))
    obtain ⟨r', g1, g2⟩ := fill_rel (place := fun j => (fs.map fun f => (f.offset, (g f).size))[j]?) ps _ (vcells i.zero) i.zero.cells c (by rw [← vcells_eq]; exact LRel.closed f.cl) ha2 hf
    have hr : (Instr.build t (parts.map fun (i, x) => (i, er x))).run P w = .ok (.agg r') w := by
      unfold Instr.build
      simp only [Sem.run_bind, f.zero, f.under, hu, Result.andThen_ok, mapM_sizesA fs g hg w]
      rw [g1]
      rfl
    rw [run_v hr]
    refine SOk.val H ?_
    have : r' = ⟨r'.toList⟩ := rfl
    rw [this]
    exact VRel.mkAgg g2
end Go.AM

/- Each simple operation of the machine is the model's: the ninth part. -/
namespace Go.AM
variable {P : Program} {X : Opq} {ι : Emb} {ow : Own} {h : Heap} {w : World} {nm : Nat} {ea er : Operand → Value} {v : Value} {ob : Option AObj} {o : Oper}

theorem ok_buildA (H : HRel X ι ow h w) {t n e : Nat} {i ei : TyI} (f : TF P t i) (hu : i.under = .array n e) (fe : TF P e ei) {parts : Array (Nat × Operand)}
    (ho : o.op = .build t parts) (E : EvRel ι ea er o.op.operands) (hs : sBuild (vcells i.zero) (partsA ei.size parts.toList) nm ea h.get = some (v, ob)) : SOk X ι ow h w nm v ob ((execOp er o).run P w) := by
  simp only [execOp, ho]
  simp only [sBuild] at hs
  cases hf : fillL ea (partsA ei.size parts.toList) (vcells i.zero) with
  | none => rw [hf] at hs; cases hs
  | some c =>
    rw [hf] at hs; cases hs
    have hE : ∀ q ∈ parts.toList, VRel ι (ea q.2) (er q.2) := fun q hq => E q.2 (by rw [ho]; simp [Op.operands]; exact ⟨q.1, by simpa using hq⟩)
    have ha2 : All2 (fun p (q : Nat × Value) => (fun i => some (i * ei.size, ei.size)) q.1 = some (p.1, p.2.1) ∧ q.2 = er p.2.2 ∧ VRel ι (ea p.2.2) (er p.2.2)) (partsA ei.size parts.toList) ((parts.map fun (i, x) => (i, er x)).toList) := by
      rw [Array.toList_map]
      unfold partsA
      exact All2.of_map _ (fun q hq => ⟨rfl, rfl, hE q hq⟩)
    obtain ⟨r', g1, g2⟩ := fill_rel (place := fun i => some (i * ei.size, ei.size)) _ _ (vcells i.zero) i.zero.cells c (by rw [← vcells_eq]; exact LRel.closed f.cl) ha2 hf
    have hr : (Instr.build t (parts.map fun (i, x) => (i, er x))).run P w = .ok (.agg r') w := by
      unfold Instr.build
      simp only [Sem.run_bind, f.zero, f.under, hu, fe.size, Result.andThen_ok]
      rw [g1]
      rfl
    rw [run_v hr]
    refine SOk.val H ?_
    have : r' = ⟨r'.toList⟩ := rfl
    rw [this]
    exact VRel.mkAgg g2
/-- the zero cells of a row -/
theorem zeros_eq (z : Array Value) (m n : Nat) (hm : z.size = m) :
    ((Array.range (n * m)).map (fun i => z[i % z.size]!)).toList = rep z.toList n := by
  rw [Array.toList_map, Array.toList_range]
  induction n with
  | zero => simp [rep]
  | succ n ih =>
    have e : (n + 1) * m = m + n * m := by rw [Nat.succ_mul]; omega
    rw [e, List.range_add, List.map_append, List.map_map]
    have h1 : (List.range m).map (fun i => z[i % z.size]!) = z.toList := by
      apply List.ext_getElem?
      intro j
      rw [List.getElem?_map]
      by_cases hj : j < m
      · rw [List.getElem?_range hj]
        simp only [Option.map_some]
        have hz : j < z.size := by omega
        rw [Nat.mod_eq_of_lt hz, getElem!_pos z j hz]
        simp [hz]
      · rw [List.getElem?_eq_none (by simp; omega), List.getElem?_eq_none (by simp; omega)]; rfl
    have h2 : (List.range (n * m)).map ((fun i => z[i % z.size]!) ∘ (fun x => m + x)) = (List.range (n * m)).map (fun i => z[i % z.size]!) := by
      apply List.map_congr_left
      intro j _
      simp [hm]
    rw [h1, h2, ih]
    rfl
theorem rep_length (z : List Value) (n : Nat) : (rep z n).length = n * z.length := by
  induction n with
  | zero => simp [rep]
  | succ n ih => simp [rep, ih, Nat.succ_mul]; omega
theorem rep_closed {z : List Value} (h : z.all closedV = true) (n : Nat) : (rep z n).all closedV = true := by
  induction n with
  | zero => rfl
  | succ n ih => simp only [rep, List.all_append, h, ih, Bool.and_self]
theorem ok_bslice (hi : ι nm = none) {t e len : Nat} {i ei : TyI} (f : TF P t i) (hu : i.under = .slice e) (fe : TF P e ei) (hl : len * ei.size ≤ 16777216) (hz : (vcells ei.zero).length = ei.size) {parts : Array (Nat × Operand)}
    (ho : o.op = .buildSlice t len parts) (E : EvRel ι ea er o.op.operands) (hs : sBslice (rep (vcells ei.zero) len) len (partsA ei.size parts.toList) nm ea h.get = some (v, ob)) : SOk X ι ow h w nm v ob ((execOp er o).run P w) := by
  simp only [execOp, ho]
  simp only [sBslice] at hs
  cases hf : fillL ea (partsA ei.size parts.toList) (rep (vcells ei.zero) len) with
  | none => rw [hf] at hs; cases hs
  | some c =>
    rw [hf] at hs; cases hs
    have hE : ∀ q ∈ parts.toList, VRel ι (ea q.2) (er q.2) := fun q hq => E q.2 (by rw [ho]; simp [Op.operands]; exact ⟨q.1, by simpa using hq⟩)
    have ha2 : All2 (fun p (q : Nat × Value) => (fun i => some (i * ei.size, ei.size)) q.1 = some (p.1, p.2.1) ∧ q.2 = er p.2.2 ∧ VRel ι (ea p.2.2) (er p.2.2)) (partsA ei.size parts.toList) ((parts.map fun (i, x) => (i, er x)).toList) := by
      rw [Array.toList_map]
      unfold partsA
      exact All2.of_map _ (fun q hq => ⟨rfl, rfl, hE q hq⟩)
    let z : Array Value := if len * ei.size = 0 then #[] else ei.zero.cells
    let zs : Array Value := (Array.range (len * ei.size)).map (fun i => z[i % z.size]!)
    have hzs : zs.toList = rep (vcells ei.zero) len := by
      by_cases h0 : len * ei.size = 0
      · have e1 : zs.toList = [] := by show ((Array.range (len * ei.size)).map (fun i => z[i % z.size]!)).toList = []; rw [h0]; simp
        rw [e1]
        have : (rep (vcells ei.zero) len).length = 0 := by rw [rep_length, hz]; exact h0
        exact (List.eq_nil_of_length_eq_zero this).symm
      · have e1 : z = ei.zero.cells := if_neg h0
        show ((Array.range (len * ei.size)).map (fun i => z[i % z.size]!)).toList = _
        rw [e1, zeros_eq _ ei.size len (by rw [← hz, vcells_eq]; simp), vcells_eq]
    obtain ⟨r', g1, g2⟩ := fill_rel (place := fun i => some (i * ei.size, ei.size)) _ _ (rep (vcells ei.zero) len) zs c (by rw [hzs]; exact LRel.closed (rep_closed fe.cl len)) ha2 hf
    have hr : (Instr.buildSlice t len (parts.map fun (i, x) => (i, er x))).run P w = .ok (.slice (some ⟨w.heap.size, 0, none⟩) len len) { w with heap := w.heap.push (.cells r' e (0, 0)) } := by
      unfold Instr.buildSlice
      simp only [Sem.run_bind, f.under, hu, fe.size, Result.andThen_ok]
      rw [if_neg (by omega)]
      have g1' : Instr.fill (fun i => some (i * ei.size, ei.size)) zs (parts.map fun x => (x.fst, er x.snd)).toList = some r' := g1
      by_cases h0 : len * ei.size = 0
      · rw [if_pos h0]
        have hz0 : zs = (Array.range (len * ei.size)).map (fun x => (#[] : Array Value)[x % (#[] : Array Value).size]!) := by
          show (Array.range (len * ei.size)).map (fun i => z[i % z.size]!) = _
          rw [show z = #[] from if_pos h0]
        simp only [Sem.run_bind, Sem.run_pure, Result.andThen_ok]
        rw [← hz0, g1']
        simp [newRow]
      · rw [if_neg h0]
        have hz0 : zs = (Array.range (len * ei.size)).map (fun x => ei.zero.cells[x % ei.zero.cells.size]!) := by
          show (Array.range (len * ei.size)).map (fun i => z[i % z.size]!) = _
          rw [show z = ei.zero.cells from if_neg h0]
        simp only [Sem.run_bind, fe.zero, Sem.run_pure, Result.andThen_ok]
        rw [← hz0, g1']
        simp [newRow]
    rw [run_v hr]
    have hlen := g2.length
    exact SOk.row (k := .row) (elem := e) hi (c' := r') (by rw [List.take_of_length_le (by simpa using Nat.le_of_eq hlen.symm)]; exact g2) (by simpa using Nat.le_of_eq hlen) True.intro rfl rfl rfl (.slEx nm 0 len len _ (upd_same _ _ _))
theorem ok_mkslice (hi : ι nm = none) {t e : Nat} {i ei : TyI} (f : TF P t i) (hu : i.under = .slice e) (fe : TF P e ei) (hz : (vcells ei.zero).length = ei.size) {l c : Operand}
    (ho : o.op = .makeSlice t l c) (E : EvRel ι ea er o.op.operands) (hs : sMkslice (vcells ei.zero) ei.bytes l c nm ea h.get = some (v, ob)) : SOk X ι ow h w nm v ob ((execOp er o).run P w) := by
  have hl := E l (by rw [ho]; simp [Op.operands])
  have hc := E c (by rw [ho]; simp [Op.operands])
  simp only [execOp, ho]
  simp only [sMkslice] at hs
  generalize ea l = a at *
  generalize er l = a' at *
  generalize ea c = b at *
  generalize er c = b' at *
  cases hl with
  | int k n => cases n with
    | negSucc n => cases hs
    | ofNat n => cases hc with
      | int j m => cases m with
        | negSucc m => cases hs
        | ofNat m =>
          dsimp only at hs
          cases hb : (Nat.ble n m && Nat.ble (Nat.mul (Nat.succ ei.bytes) m) 70368744177664) with
          | false => rw [hb] at hs; cases hs
          | true =>
            rw [hb] at hs; cases hs
            rw [Bool.and_eq_true] at hb
            have h1 : n ≤ m := Nat.le_of_ble_eq_true hb.1
            have h2 : (ei.bytes + 1) * m ≤ 70368744177664 := Nat.le_of_ble_eq_true hb.2
            have h3 : ei.bytes * m + m ≤ 70368744177664 := by rw [Nat.succ_mul] at h2; exact h2
            let z : Array Value := if m * ei.size = 0 then #[] else ei.zero.cells
            let zs : Array Value := (Array.range (m * ei.size)).map (fun i => z[i % z.size]!)
            have hzs : zs.toList = rep (vcells ei.zero) m := by
              by_cases h0 : m * ei.size = 0
              · have e1 : zs.toList = [] := by show ((Array.range (m * ei.size)).map (fun i => z[i % z.size]!)).toList = []; rw [h0]; simp
                rw [e1]
                have : (rep (vcells ei.zero) m).length = 0 := by rw [rep_length, hz]; exact h0
                exact (List.eq_nil_of_length_eq_zero this).symm
              · have e1 : z = ei.zero.cells := if_neg h0
                show ((Array.range (m * ei.size)).map (fun i => z[i % z.size]!)).toList = _
                rw [e1, zeros_eq _ ei.size m (by rw [← hz, vcells_eq]; simp), vcells_eq]
            have hr : (Instr.makeSlice t (.int k (Int.ofNat n)) (.int j (Int.ofNat m))).run P w = .ok (.slice (some ⟨w.heap.size, 0, none⟩) n m) { w with heap := w.heap.push (.cells zs e (0, 0)) } := by
              obtain ⟨x, hx, _, hxb⟩ := fe.info w
              have w1 : IntKind.i64.wrap (Int.ofNat n) = (n : Int) := IntWalk.i64_in _ ⟨by show _ ≤ (n : Int); omega, by show (n : Int) ≤ _; omega⟩
              have w2 : IntKind.i64.wrap (Int.ofNat m) = (m : Int) := IntWalk.i64_in _ ⟨by show _ ≤ (m : Int); omega, by show (m : Int) ≤ _; omega⟩
              unfold Instr.makeSlice
              simp only [Sem.run_bind, f.under, hu, Result.andThen_ok, asInt, asIntOf_run, Sem.run_pure, hx, w1, w2]
              have hbm : (x.bytes : Int) * (m : Int) ≤ 70368744177664 := by rw [hxb, ← Int.natCast_mul]; omega
              have hn : ¬ (((decide ((m : Int) < 0) || decide ((x.bytes : Int) * (m : Int) > 2 ^ 48)) || decide ((n : Int) < 0) || decide ((n : Int) > (m : Int))) = true) := by
                simp only [Bool.or_eq_true, decide_eq_true_eq]
                omega
              rw [if_neg hn]
              simp only [Sem.run_bind, run_askRoom, Result.andThen_ok, fe.size, Int.toNat_natCast]
              by_cases h0 : m * ei.size = 0
              · rw [if_pos h0]
                have hz0 : zs = (Array.range (m * ei.size)).map (fun x => (#[] : Array Value)[x % (#[] : Array Value).size]!) := by
                  show (Array.range (m * ei.size)).map (fun i => z[i % z.size]!) = _
                  rw [show z = #[] from if_pos h0]
                rw [hz0]
                simp [newRow]
              · rw [if_neg h0]
                have hz0 : zs = (Array.range (m * ei.size)).map (fun x => ei.zero.cells[x % ei.zero.cells.size]!) := by
                  show (Array.range (m * ei.size)).map (fun i => z[i % z.size]!) = _
                  rw [show z = ei.zero.cells from if_neg h0]
                rw [hz0]
                simp [newRow, fe.zero]
            rw [run_v hr]
            refine SOk.row (k := .row) (elem := e) hi (c' := zs) (by rw [← hzs, List.take_of_length_le (Nat.le_refl _)]; rw [hzs]; exact LRel.closed (rep_closed fe.cl m)) (by rw [← hzs]; simp) True.intro rfl rfl rfl (.slEx nm 0 n m _ (upd_same _ _ _))
      | _ => cases hs
  | _ => cases hs
end Go.AM

/- Keys: how two of them are held against one another. -/
namespace Go.AM
variable {P : Program} {X : Opq} {ι : Emb} {ow : Own} {h : Heap} {w : World} {nm : Nat} {ea er : Operand → Value} {v : Value} {ob : Option AObj} {o : Oper}

/-- the table of types is the program's; none of them is stood in for -/
structure PF (P : Program) (ty : Ty) : Prop where
  of : ∀ t i, ty t = some i → TF P t i
  stood : ∀ t i, ty t = some i → P.stoodInHeld t = false
theorem part_cells {i : TyI} {c : List Value} {off : Nat} {v : Value} (h : partV i.agg c off i.size = some v) : partV i.agg c off i.cells = some v := by
  unfold partV at h ⊢
  cases e : i.agg with
  | true => rw [e] at h; simpa [TyI.cells, e] using h
  | false => rw [e] at h; exact h
theorem run_forIn_cons {α β : Type} (a : α) (l : List α) (s : β) (f : α → β → Sem (ForInStep β)) (w : World) :
    (forIn (a :: l) s f).run P w = ((f a s).run P w).andThen fun r w => match r with
      | .done b => .ok b w
      | .yield b => (forIn l b f).run P w := by
  rw [List.forIn_cons, Sem.run_bind]
  congr 1
  funext r w
  cases r <;> rfl
theorem eqS_fields {ty : Ty} (F : PF P ty) {d n : Nat}
    (ih : ∀ T t, keyT ty d T = some t → ∀ x y x' y' r, VRel ι x x' → VRel ι y y' → eqS t x y = some r → (Op.equalIn n T x' y').run P w = .ok r w)
    {xs ys xs' ys' : Array Value} (hx : LRel ι xs.toList xs'.toList) (hy : LRel ι ys.toList ys'.toList) :
    ∀ (fs : List Field) (t : KT) (r : Bool), fieldsT ty (keyT ty d) fs = some t → eqS t (.agg xs) (.agg ys) = some r → ∀ (k : Sem Bool) (R : Result Bool),
      (k.run P w = R) → 
      ((do
        for f in fs do
          if f.name ≠ "_" then
            if !(← Op.equalIn n f.type (← part f.type xs' f.offset) (← part f.type ys' f.offset)) then return false
        k) : Sem Bool).run P w = if r then R else .ok false w := by
  intro fs
  induction fs with
  | nil =>
    intro t r ht he k R hk
    cases ht
    simp only [eqS] at he
    cases he
    simpa using hk
  | cons f fs ihf =>
    intro t r ht he k R hk
    simp only [fieldsT] at ht
    split at ht
    · cases ht
    rename_i hname
    cases h1 : ty f.type with
    | none => rw [h1] at ht; cases ht
    | some fi =>
      cases h2 : keyT ty d f.type with
      | none => rw [h1, h2] at ht; cases ht
      | some kt =>
        cases h3 : fieldsT ty (keyT ty d) fs with
        | none => rw [h1, h2, h3] at ht; cases ht
        | some rest =>
          rw [h1, h2, h3] at ht
          cases ht
          simp only [eqS] at he
          cases h4 : partV fi.agg xs.toList f.offset fi.size with
          | none => rw [h4] at he; cases he
          | some x =>
            cases h5 : partV fi.agg ys.toList f.offset fi.size with
            | none => rw [h4, h5] at he; cases he
            | some y =>
              rw [h4, h5] at he
              dsimp only at he
              cases h6 : eqS kt x y with
              | none => rw [h6] at he; cases he
              | some p =>
                cases h7 : eqS rest (.agg xs) (.agg ys) with
                | none => rw [h6, h7] at he; cases he
                | some q =>
                  rw [h6, h7] at he; cases he
                  obtain ⟨x', hx1, hx2⟩ := run_part (w := w) (F.of _ _ h1) hx (part_cells h4)
                  obtain ⟨y', hy1, hy2⟩ := run_part (w := w) (F.of _ _ h1) hy (part_cells h5)
                  have he := ih _ _ h2 _ _ _ _ _ hx2 hy2 h6
                  have hrest := ihf _ _ h3 h7 k R hk
                  simp only [Sem.run_bind, run_forIn_cons, hname, ne_eq, not_false_eq_true, if_true, hx1, hy1, he, Result.andThen_ok]
                  cases p with
                  | false => simp
                  | true => simpa using hrest
theorem eqS_arr {ty : Ty} (F : PF P ty) {n e : Nat} {ei : TyI} {kt : KT} (he : ty e = some ei)
    (ih : ∀ x y x' y' r, VRel ι x x' → VRel ι y y' → eqS kt x y = some r → (Op.equalIn n e x' y').run P w = .ok r w)
    {xs ys xs' ys' : Array Value} (hx : LRel ι xs.toList xs'.toList) (hy : LRel ι ys.toList ys'.toList) :
    ∀ (m i : Nat) (r : Bool), eqAr (eqS kt) ei.agg ei.size xs.toList ys.toList m i = some r → ∀ (k : Sem Bool) (R : Result Bool),
      (k.run P w = R) →
      ((do
        for i in List.range' i m do
          if !(← Op.equalIn n e (← part e xs' (i * ei.size)) (← part e ys' (i * ei.size))) then return false
        k) : Sem Bool).run P w = if r then R else .ok false w := by
  intro m
  induction m with
  | zero =>
    intro i r he k R hk
    simp only [eqAr] at he
    cases he
    simpa using hk
  | succ m ihm =>
    intro i r hq k R hk
    simp only [eqAr] at hq
    cases h4 : partV ei.agg xs.toList (Nat.mul i ei.size) ei.size with
    | none => rw [h4] at hq; cases hq
    | some x =>
      cases h5 : partV ei.agg ys.toList (Nat.mul i ei.size) ei.size with
      | none => rw [h4, h5] at hq; cases hq
      | some y =>
        rw [h4, h5] at hq
        dsimp only at hq
        cases h6 : eqS kt x y with
        | none => rw [h6] at hq; cases hq
        | some p =>
          cases h7 : eqAr (eqS kt) ei.agg ei.size xs.toList ys.toList m (Nat.succ i) with
          | none => rw [h6, h7] at hq; cases hq
          | some q =>
            rw [h6, h7] at hq; cases hq
            obtain ⟨x', hx1, hx2⟩ := run_part (w := w) (F.of _ _ he) hx (part_cells h4)
            obtain ⟨y', hy1, hy2⟩ := run_part (w := w) (F.of _ _ he) hy (part_cells h5)
            have hq := ih _ _ _ _ _ hx2 hy2 h6
            have hrest := ihm _ _ h7 k R hk
            have hx1' : (part e xs' (i * ei.size)).run P w = .ok x' w := hx1
            have hy1' : (part e ys' (i * ei.size)).run P w = .ok y' w := hy1
            rw [List.range'_succ]
            simp only [Sem.run_bind, run_forIn_cons, hx1', hy1', hq, Result.andThen_ok]
            cases p with
            | false => simp
            | true => simpa using hrest
theorem bytes_beq (x y : Array UInt8) : ((⟨x⟩ : ByteArray) == ⟨y⟩) = (x == y) := rfl
theorem eqS_int {k : IntKind} {x y : Value} {r : Bool} (h : eqS (.int k) x y = some r) : ∃ a b, x = .int k a ∧ y = .int k b ∧ r = (a == b) := by
  unfold eqS at h
  split at h
  · rename_i hk
    cases hk
    split at h
    · rename_i e
      cases h
      rw [Bool.and_eq_true] at e
      cases eqK_eq.1 e.1
      cases eqK_eq.1 e.2
      exact ⟨_, _, rfl, rfl, eqI_eq _ _⟩
    · cases h
  · rename_i hk; cases hk
  · rename_i hk; cases hk
  · rename_i hk; cases hk
  · rename_i hk; cases hk
  · rename_i hk; cases hk
  · cases h
theorem eqS_bool  {x y : Value} {r : Bool} (h : eqS (.bool) x y = some r) : ∃ a b, x = .bool a ∧ y = .bool b ∧ r = (a == b) := by
  unfold eqS at h
  split at h
  · rename_i hk; cases hk
  · cases h; exact ⟨_, _, rfl, rfl, rfl⟩
  · rename_i hk; cases hk
  · rename_i hk; cases hk
  · rename_i hk; cases hk
  · rename_i hk; cases hk
  · cases h
theorem eqS_str  {x y : Value} {r : Bool} (h : eqS (.str) x y = some r) : ∃ a b, x = .string a ∧ y = .string b ∧ r = (a == b) := by
  unfold eqS at h
  split at h
  · rename_i hk; cases hk
  · rename_i hk; cases hk
  · cases h
    refine ⟨_, _, rfl, rfl, ?_⟩
    rw [eqStr_eq]
    rename_i a b _
    cases a with
    | mk a => cases b with
      | mk b =>
        rw [bytes_beq, Bool.eq_iff_iff]; simp [Array.toList_inj]
  · rename_i hk; cases hk
  · rename_i hk; cases hk
  · rename_i hk; cases hk
  · cases h
theorem eqS_arrI {n size : Nat} {agg : Bool} {e : KT} {x y : Value} {r : Bool} (h : eqS (.arr n size agg e) x y = some r) : ∃ a b, x = .agg a ∧ y = .agg b ∧ eqAr (eqS e) agg size a.toList b.toList n 0 = some r := by
  unfold eqS at h
  split at h
  · rename_i hk; cases hk
  · rename_i hk; cases hk
  · rename_i hk; cases hk
  · rename_i hk; cases hk
  · rename_i hk; cases hk
  · rename_i hk; cases hk; exact ⟨_, _, rfl, rfl, h⟩
  · cases h
theorem eqS_fcI {off n : Nat} {agg : Bool} {t rest : KT} {x y : Value} {r : Bool} (h : eqS (.fcons off n agg t rest) x y = some r) : ∃ a b, x = .agg a ∧ y = .agg b := by
  unfold eqS at h
  split at h
  · rename_i hk; cases hk
  · rename_i hk; cases hk
  · rename_i hk; cases hk
  · rename_i hk; cases hk
  · exact ⟨_, _, rfl, rfl⟩
  · rename_i hk; cases hk
  · cases h
theorem eqS_fnI  {x y : Value} {r : Bool} (h : eqS (.fnil) x y = some r) : ∃ a b, x = .agg a ∧ y = .agg b := by
  unfold eqS at h
  split at h
  · rename_i hk; cases hk
  · rename_i hk; cases hk
  · rename_i hk; cases hk
  · exact ⟨_, _, rfl, rfl⟩
  · rename_i hk; cases hk
  · rename_i hk; cases hk
  · cases h
theorem fieldsT_agg {ty : Ty} {k : TypeId → Option KT} {fs : List Field} {t : KT} (ht : fieldsT ty k fs = some t) {x y : Value} {r : Bool} (h : eqS t x y = some r) : ∃ a b, x = .agg a ∧ y = .agg b := by
  cases fs with
  | nil => cases ht; exact eqS_fnI h
  | cons f fs =>
    simp only [fieldsT] at ht
    split at ht
    · cases ht
    split at ht
    · cases ht; exact eqS_fcI h
    · cases ht
theorem eqS_sound {ty : Ty} (F : PF P ty) : ∀ (d T : Nat) (t : KT), keyT ty d T = some t → ∀ (n : Nat), d ≤ n → ∀ x y x' y' r, VRel ι x x' → VRel ι y y' → eqS t x y = some r → (Op.equalIn n T x' y').run P w = .ok r w := by
  intro d
  induction d with
  | zero => intro T t ht; cases ht
  | succ d ihd =>
    intro T t ht n hn x y x' y' r hx hy he
    obtain ⟨n, rfl⟩ : ∃ m, n = m + 1 := ⟨n - 1, by omega⟩
    have hdn : d ≤ n := by omega
    simp only [keyT] at ht
    cases h1 : ty T with
    | none => rw [h1] at ht; cases ht
    | some i =>
      rw [h1] at ht
      dsimp only at ht
      have f := F.of _ _ h1
      unfold Op.equalIn
      cases hu : i.under with
      | int k =>
        rw [hu] at ht; cases ht
        obtain ⟨a, b, rfl, rfl, rfl⟩ := eqS_int he
        cases hx; cases hy
        simp [f.under, hu]
      | bool =>
        rw [hu] at ht; cases ht
        obtain ⟨a, b, rfl, rfl, rfl⟩ := eqS_bool he
        cases hx; cases hy
        simp [f.under, hu]
      | string =>
        rw [hu] at ht; cases ht
        obtain ⟨a, b, rfl, rfl, rfl⟩ := eqS_str he
        cases hx; cases hy
        simp [f.under, hu]
      | array len e =>
        rw [hu] at ht
        dsimp only at ht
        cases h2 : ty e with
        | none => rw [h2] at ht; cases ht
        | some ei =>
          cases h3 : keyT ty d e with
          | none => rw [h2, h3] at ht; cases ht
          | some k =>
            rw [h2, h3] at ht; cases ht
            obtain ⟨xs, ys, rfl, rfl, he⟩ := eqS_arrI he
            cases hx with
            | agg _ xs' ha ra =>
            cases hy with
            | agg _ ys' hb rb =>
              have := eqS_arr F h2 (fun x y x' y' r => ihd e k h3 n hdn x y x' y' r) (LRel.of_arr ha ra) (LRel.of_arr hb rb) len 0 r he (pure true) (.ok true w) rfl
              simp only [Sem.run_bind, f.under, hu, Result.andThen_ok, (F.of _ _ h2).size, Std.Legacy.Range.forIn_eq_forIn_range']
              simp only [Sem.run_bind] at this
              have hsz : ([:len] : Std.Legacy.Range).size = len := by simp [Std.Legacy.Range.size]
              rw [hsz]
              refine Eq.trans this ?_
              cases r <;> rfl
      | struct fs =>
        rw [hu] at ht
        dsimp only at ht
        obtain ⟨xs, ys, rfl, rfl⟩ := fieldsT_agg ht he
        cases hx with
        | agg _ xs' ha ra =>
        cases hy with
        | agg _ ys' hb rb =>
          have := eqS_fields (n := n) F (fun T t h => ihd T t h n hdn) (LRel.of_arr ha ra) (LRel.of_arr hb rb) fs.toList t r ht he (pure true) (.ok true w) rfl
          simp only [Sem.run_bind, f.under, hu, Result.andThen_ok, run_program, F.stood _ _ h1, Bool.false_eq_true, if_false]
          simp only [Sem.run_bind] at this
          rw [← Array.forIn_toList]
          refine Eq.trans this ?_
          cases r <;> rfl
      | _ => rw [hu] at ht; cases ht
end Go.AM

/- Keys: they are looked at, and found. -/
namespace Go.AM
variable {P : Program} {X : Opq} {ι : Emb} {ow : Own} {h : Heap} {w : World} {nm : Nat} {ea er : Operand → Value} {v : Value} {ob : Option AObj} {o : Oper}

theorem check_fields {ty : Ty} (F : PF P ty) {d n : Nat} {emp : Bool}
    (ih : ∀ T t, keyT ty d T = some t → ∀ x x' r, VRel ι x x' → eqS t x x = some r → (Instr.checkKey emp n T x').run P w = .ok () w)
    {xs xs' : Array Value} (hx : LRel ι xs.toList xs'.toList) :
    ∀ (fs : List Field) (t : KT) (r : Bool), fieldsT ty (keyT ty d) fs = some t → eqS t (.agg xs) (.agg xs) = some r →
      ((do
        for f in fs do
          if f.name ≠ "_" then Instr.checkKey emp n f.type (← part f.type xs' f.offset)) : Sem Unit).run P w = .ok () w := by
  intro fs
  induction fs with
  | nil => intro t r ht he; simp
  | cons f fs ihf =>
    intro t r ht he
    simp only [fieldsT] at ht
    split at ht
    · cases ht
    rename_i hname
    cases h1 : ty f.type with
    | none => rw [h1] at ht; cases ht
    | some fi =>
      cases h2 : keyT ty d f.type with
      | none => rw [h1, h2] at ht; cases ht
      | some kt =>
        cases h3 : fieldsT ty (keyT ty d) fs with
        | none => rw [h1, h2, h3] at ht; cases ht
        | some rest =>
          rw [h1, h2, h3] at ht
          cases ht
          simp only [eqS] at he
          cases h4 : partV fi.agg xs.toList f.offset fi.size with
          | none => rw [h4] at he; cases he
          | some x =>
            rw [h4] at he
            dsimp only at he
            cases h6 : eqS kt x x with
            | none => rw [h6] at he; cases he
            | some p =>
              cases h7 : eqS rest (.agg xs) (.agg xs) with
              | none => rw [h6, h7] at he; cases he
              | some q =>
                obtain ⟨x', hx1, hx2⟩ := run_part (w := w) (F.of _ _ h1) hx (part_cells h4)
                have he := ih _ _ h2 _ _ _ hx2 h6
                have hrest := ihf _ _ h3 h7
                simp only [Sem.run_bind, run_forIn_cons, hname, ne_eq, not_false_eq_true, if_true, hx1, he, Result.andThen_ok, Sem.run_pure] at hrest ⊢
                exact hrest
theorem check_arr {ty : Ty} (F : PF P ty) {n e : Nat} {ei : TyI} {kt : KT} {emp : Bool} (he : ty e = some ei)
    (ih : ∀ x x' r, VRel ι x x' → eqS kt x x = some r → (Instr.checkKey emp n e x').run P w = .ok () w)
    {xs xs' : Array Value} (hx : LRel ι xs.toList xs'.toList) :
    ∀ (m i : Nat) (r : Bool), eqAr (eqS kt) ei.agg ei.size xs.toList xs.toList m i = some r →
      ((do
        for i in List.range' i m do Instr.checkKey emp n e (← part e xs' (i * (← sizeOf e)))) : Sem Unit).run P w = .ok () w := by
  intro m
  induction m with
  | zero => intro i r he; simp
  | succ m ihm =>
    intro i r hq
    simp only [eqAr] at hq
    cases h4 : partV ei.agg xs.toList (Nat.mul i ei.size) ei.size with
    | none => rw [h4] at hq; cases hq
    | some x =>
      rw [h4] at hq
      dsimp only at hq
      cases h6 : eqS kt x x with
      | none => rw [h6] at hq; cases hq
      | some p =>
        cases h7 : eqAr (eqS kt) ei.agg ei.size xs.toList xs.toList m (Nat.succ i) with
        | none => rw [h6, h7] at hq; cases hq
        | some q =>
          obtain ⟨x', hx1, hx2⟩ := run_part (w := w) (F.of _ _ he) hx (part_cells h4)
          have hq := ih _ _ _ hx2 h6
          have hrest := ihm _ _ h7
          have hx1' : (part e xs' (i * ei.size)).run P w = .ok x' w := hx1
          rw [List.range'_succ]
          simp only [Sem.run_bind, run_forIn_cons, (F.of _ _ he).size, hx1', hq, Result.andThen_ok, Sem.run_pure] at hrest ⊢
          exact hrest
theorem check_sound {ty : Ty} (F : PF P ty) {emp : Bool} : ∀ (d T : Nat) (t : KT), keyT ty d T = some t → ∀ (n : Nat), d ≤ n → ∀ x x' r, VRel ι x x' → eqS t x x = some r → (Instr.checkKey emp n T x').run P w = .ok () w := by
  intro d
  induction d with
  | zero => intro T t ht; cases ht
  | succ d ihd =>
    intro T t ht n hn x x' r hx he
    obtain ⟨n, rfl⟩ : ∃ m, n = m + 1 := ⟨n - 1, by omega⟩
    have hdn : d ≤ n := by omega
    simp only [keyT] at ht
    cases h1 : ty T with
    | none => rw [h1] at ht; cases ht
    | some i =>
      rw [h1] at ht
      dsimp only at ht
      have f := F.of _ _ h1
      unfold Instr.checkKey
      cases hu : i.under with
      | int k => simp [f.under, hu]
      | bool => simp [f.under, hu]
      | string => simp [f.under, hu]
      | array len e =>
        rw [hu] at ht
        dsimp only at ht
        cases h2 : ty e with
        | none => rw [h2] at ht; cases ht
        | some ei =>
          cases h3 : keyT ty d e with
          | none => rw [h2, h3] at ht; cases ht
          | some k =>
            rw [h2, h3] at ht; cases ht
            obtain ⟨xs, ys, rfl, hxy, he⟩ := eqS_arrI he
            cases hxy
            cases hx with
            | agg _ xs' ha ra =>
              have := check_arr (emp := emp) F h2 (fun x x' r => ihd e k h3 n hdn x x' r) (LRel.of_arr ha ra) len 0 r he
              simp only [Sem.run_bind, f.under, hu, Result.andThen_ok, Std.Legacy.Range.forIn_eq_forIn_range']
              simp only [Sem.run_bind] at this
              have hsz : ([:len] : Std.Legacy.Range).size = len := by simp [Std.Legacy.Range.size]
              rw [hsz]
              exact this
      | struct fs =>
        rw [hu] at ht
        dsimp only at ht
        obtain ⟨xs, ys, rfl, hxy⟩ := fieldsT_agg ht he
        cases hxy
        cases hx with
        | agg _ xs' ha ra =>
          have := check_fields (emp := emp) (n := n) F (fun T t h => ihd T t h n hdn) (LRel.of_arr ha ra) fs.toList t r ht he
          simp only [Sem.run_bind, f.under, hu, Result.andThen_ok]
          simp only [Sem.run_bind] at this
          rw [← Array.forIn_toList]
          exact this
      | _ => rw [hu] at ht; cases ht
theorem same_now {ty : Ty} {d T : Nat} {t : KT} {i : TyI} (ht : keyT ty d T = some t) (hi : ty T = some i) {x y x' y' : Value} {r : Bool} (hx : VRel ι x x') (hy : VRel ι y y') (he : eqS t x y = some r) :
    Instr.sameNow i.under x' y' = some r ∨ Instr.sameNow i.under x' y' = none := by
  cases d with
  | zero => cases ht
  | succ d =>
    simp only [keyT, hi] at ht
    cases hu : i.under with
    | int k =>
      rw [hu] at ht; cases ht
      obtain ⟨a, b, rfl, rfl, rfl⟩ := eqS_int he
      cases hx; cases hy
      simp [Instr.sameNow]
    | bool =>
      rw [hu] at ht; cases ht
      obtain ⟨a, b, rfl, rfl, rfl⟩ := eqS_bool he
      cases hx; cases hy
      simp [Instr.sameNow]
    | string =>
      rw [hu] at ht; cases ht
      obtain ⟨a, b, rfl, rfl, rfl⟩ := eqS_str he
      cases hx; cases hy
      simp [Instr.sameNow]
    | _ => first | (right; rfl) | (right; cases x' <;> cases y' <;> rfl)
/-- what a search for a key gives -/
def FOut (ι : Emb) (es : List MEnt) (es' : List MapEntry) (i : Nat) : Option (Nat × MEnt) → Option (Nat × Value) → Prop
  | none, q => q = none
  | some (j, e), q => i ≤ j ∧ es[j - i]? = some e ∧ ∃ e', es'[j - i]? = some e' ∧ ERel ι e e' ∧ q = some (j, e'.val)
theorem find_sound {ty : Ty} (F : PF P ty) {d T : Nat} {t : KT} {i : TyI} (hd : d ≤ 10000) (ht : keyT ty d T = some t) (hi : ty T = some i) {k k' : Value} (hk : VRel ι k k') :
    ∀ (es : List MEnt) (es' : List MapEntry), All2 (ERel ι) es es' → ∀ n r, find t k es n = some r →
      ∃ q, FOut ι es es' n r q ∧ (Instr.findNow i.under k' es' n = some q ∨ Instr.findNow i.under k' es' n = none) ∧ (Instr.findAsking T k' es' n).run P w = .ok q w := by
  intro es
  induction es with
  | nil =>
    intro es' ha n r hf
    cases ha
    cases hf
    exact ⟨none, rfl, .inl rfl, rfl⟩
  | cons e es ih =>
    intro es' ha n r hf
    cases ha with
    | @cons _ e' _ es' he hes =>
      simp only [find] at hf
      cases h1 : eqS t k e.key with
      | none => rw [h1] at hf; cases hf
      | some b =>
        rw [h1] at hf
        have hs := same_now ht hi hk he.1 h1
        have hq : (Op.equal T k' e'.key).run P w = .ok b w := eqS_sound F d T t ht 10000 hd _ _ _ _ _ hk he.1 h1
        cases b with
        | true =>
          cases hf
          refine ⟨some (n, e'.val), ⟨Nat.le_refl _, by simp, e', by simp, he, rfl⟩, ?_, ?_⟩
          · simp only [Instr.findNow]
            rcases hs with hs | hs <;> rw [hs] <;> simp
          · simp [Instr.findAsking, hq]
        | false =>
          dsimp only at hf
          obtain ⟨q, h2, h3, h4⟩ := ih es' hes (n + 1) r hf
          refine ⟨q, ?_, ?_, ?_⟩
          · cases r with
            | none => exact h2
            | some p =>
              obtain ⟨j, e2⟩ := p
              obtain ⟨hj, g1, e3, g2, g3, g4⟩ := h2
              have : j - n = (j - (n + 1)) + 1 := by omega
              exact ⟨by omega, by rw [this]; simpa using g1, e3, by rw [this]; simpa using g2, g3, g4⟩
          · simp only [Instr.findNow]
            rcases hs with hs | hs <;> rw [hs]
            · exact h3
            · right; rfl
          · simp [Instr.findAsking, hq, h4]
theorem findKey_sound {ty : Ty} (F : PF P ty) {T : Nat} {t : KT} (ht : keyT ty kdepth T = some t) {k k' : Value} (hk : VRel ι k k') {es : List MEnt} {es' : List MapEntry} (ha : All2 (ERel ι) es es')
    {r : Option (Nat × MEnt)} (hf : find t k es 0 = some r) : ∃ q, FOut ι es es' 0 r q ∧ (Instr.findKey T k' es').run P w = .ok q w := by
  cases hi : ty T with
  | none => simp only [kdepth, keyT, hi] at ht; cases ht
  | some i =>
    obtain ⟨q, h1, h2, h3⟩ := find_sound (w := w) F (by decide) ht hi hk es es' ha 0 r hf
    refine ⟨q, h1, ?_⟩
    simp only [Instr.findKey, Sem.run_bind, (F.of _ _ hi).under, Result.andThen_ok]
    rcases h2 with h2 | h2 <;> rw [h2]
    · rfl
    · exact h3
theorem checkKey_sound {ty : Ty} (F : PF P ty) {emp : Bool} {T : Nat} {t : KT} (ht : keyT ty kdepth T = some t) {k k' : Value} (hk : VRel ι k k') {r : Bool} (hq : eqS t k k = some r) :
    (Instr.checkKey emp 10000 T k').run P w = .ok () w := check_sound F kdepth T t ht 10000 (by decide) k k' r hk hq
end Go.AM

/- Each simple operation of the machine is the model's: the last part: maps, keys, least and greatest, bytes. -/
namespace Go.AM
variable {P : Program} {X : Opq} {ι : Emb} {ow : Own} {h : Heap} {w : World} {nm : Nat} {ea er : Operand → Value} {v : Value} {ob : Option AObj} {o : Oper}

/-- an object stays what it is, its block turns -/
theorem HRel.same (hX : X.local) (H : HRel X ι ow h w) {n : Nat} {p : AObj} {l : Loc} {w' : World} (hn : h.get n = some p) (hl : ι n = some l) (hs : w'.heap.size = w.heap.size)
    (hw : ∀ b, ¬ ow n b → w'.heap[b]? = w.heap[b]?) (ho : ORel X ι w' l (ow n) p) : HRel X ι ow h w' where
  obj := fun m q e => by
    by_cases hm : n = m
    · subst hm
      rw [hn] at e; cases e
      exact ⟨l, hl, ho⟩
    · obtain ⟨lm, hlm, hom⟩ := H.obj m q e
      exact ⟨lm, hlm, hom.mono hX ι.le_refl (fun b hb => hw b (fun hnb => hm (H.dis n m b (by simp [Heap.live, hn]) (by simp [Heap.live, e]) hnb hb)))⟩
  lt := fun m b hm hb => by rw [hs]; exact H.lt m b hm hb
  dis := H.dis
  low := H.low
theorem getObj_map {w : World} {b : Nat} {es : Array MapEntry} {c : Nat} (hb : w.heap[b]? = some (.map es c)) : (getObj b).run P w = .ok (.map es c) w := by simp [getObj, Sem.run, hb]
theorem HRel.map (H : HRel X ι ow h w) {n : Nat} {l : Loc} {es : List MEnt} {c : Nat} (hl : ι n = some l) (hg : h.get n = some (.map es c)) :
    (∀ b, ow n b ↔ b = l.blk) ∧ ∃ es', w.heap[l.blk]? = some (.map es' c) ∧ All2 (ERel ι) es es'.toList := by
  obtain ⟨l', hl', ho⟩ := H.obj n _ hg
  rw [hl] at hl'; cases hl'
  exact ho
theorem ok_lookup {ty : Ty} (F : PF P ty) (H : HRel X ι ow h w) {t kt e : Nat} {i ei : TyI} (f : TF P t i) (hu : i.under = .map kt e) (fe : TF P e ei) {kk : KT} (hk : keyT ty kdepth kt = some kk) {m k : Operand} {ok : Bool}
    (ho : o.op = .lookup t m k ok) (E : EvRel ι ea er o.op.operands) (hs : sLookup kk ei.zero ok m k nm ea h.get = some (v, ob)) : SOk X ι ow h w nm v ob ((execOp er o).run P w) := by
  have hm := E m (by rw [ho]; simp [Op.operands])
  have hkk := E k (by rw [ho]; simp [Op.operands])
  simp only [execOp, ho]
  simp only [sLookup] at hs
  generalize ea m = a at *
  generalize er m = b at *
  have hz : VRel ι ei.zero ei.zero := VRel.closedW fe.cl
  cases hm with
  | mapNil =>
    dsimp only at hs
    cases he : eqS kk (ea k) (ea k) with
    | none => rw [he] at hs; cases hs
    | some r =>
      rw [he] at hs; cases hs
      have hr : (Instr.lookup t (.map none) (er k) ok).run P w = .ok (cond ok (.tuple #[ei.zero, .bool false]) ei.zero) w := by
        simp only [Instr.lookup, Sem.run_bind, f.under, hu, Result.andThen_ok, Sem.run_pure, checkKey_sound F hk hkk he]
        obtain ⟨q, h1, h2⟩ := findKey_sound (w := w) F hk hkk (es := []) (es' := []) .nil (r := none) rfl
        cases h1
        simp only [h2, Result.andThen_ok, fe.zero, Sem.run_bind, Sem.run_pure]
        cases ok <;> rfl
      rw [run_v hr]
      cases ok with
      | true => exact SOk.val H (VRel.mkTuple (.cons hz (.cons (.bool false) .nil)))
      | false => exact SOk.val H hz
  | map n l hl =>
    dsimp only at hs
    cases hg : h.get n with
    | none => rw [hg] at hs; cases hs
    | some p =>
      cases p with
      | map es clock =>
        cases he : eqS kk (ea k) (ea k) with
        | none => rw [hg, he] at hs; cases hs
        | some r =>
          rw [hg, he] at hs
          dsimp only at hs
          obtain ⟨_, es', h1, h2⟩ := H.map hl hg
          cases hf : find kk (ea k) es 0 with
          | none => rw [hf] at hs; cases hs
          | some q =>
            rw [hf] at hs
            obtain ⟨q', h3, h4⟩ := findKey_sound (w := w) F hk hkk h2 hf
            cases q with
            | none =>
              cases hs
              cases h3
              have hr : (Instr.lookup t (.map (some l.blk)) (er k) ok).run P w = .ok (cond ok (.tuple #[ei.zero, .bool false]) ei.zero) w := by
                simp only [Instr.lookup, Sem.run_bind, f.under, hu, Result.andThen_ok, Sem.run_pure, getObj_map h1, checkKey_sound F hk hkk he, h4, fe.zero]
                cases ok <;> rfl
              rw [run_v hr]
              cases ok with
              | true => exact SOk.val H (VRel.mkTuple (.cons hz (.cons (.bool false) .nil)))
              | false => exact SOk.val H hz
            | some q =>
              obtain ⟨j, e0⟩ := q
              cases hs
              obtain ⟨_, _, e', _, h5, rfl⟩ := h3
              have hr : (Instr.lookup t (.map (some l.blk)) (er k) ok).run P w = .ok (cond ok (.tuple #[e'.val, .bool true]) e'.val) w := by
                simp only [Instr.lookup, Sem.run_bind, f.under, hu, Result.andThen_ok, Sem.run_pure, getObj_map h1, checkKey_sound F hk hkk he, h4]
                cases ok <;> rfl
              rw [run_v hr]
              cases ok with
              | true => exact SOk.val H (VRel.mkTuple (.cons h5.2.1 (.cons (.bool true) .nil)))
              | false => exact SOk.val H h5.2.1
      | _ => rw [hg] at hs; cases hs
  | _ => cases hs
theorem guardType {ty : Ty} (F : PF P ty) : ∀ (d T : Nat) (t : KT), keyT ty d T = some t → ∀ n, d ≤ n → P.eqGuardType n T = false := by
  intro d
  induction d with
  | zero => intro T t ht; cases ht
  | succ d ihd =>
    intro T t ht n hn
    obtain ⟨n, rfl⟩ : ∃ m, n = m + 1 := ⟨n - 1, by omega⟩
    have hdn : d ≤ n := by omega
    simp only [keyT] at ht
    cases h1 : ty T with
    | none => rw [h1] at ht; cases ht
    | some i =>
      rw [h1] at ht
      dsimp only at ht
      have f := F.of _ _ h1
      simp only [Program.eqGuardType, f.u]
      cases hu : i.under with
      | array len e =>
        rw [hu] at ht
        dsimp only at ht
        cases h2 : ty e with
        | none => rw [h2] at ht; cases ht
        | some ei =>
          cases h3 : keyT ty d e with
          | none => rw [h2, h3] at ht; cases ht
          | some k => exact ihd e k h3 n hdn
      | struct fs =>
        rw [hu] at ht
        dsimp only at ht
        dsimp only
        rw [← Array.any_toList, List.any_eq_false]
        have : ∀ (l : List Field) t, fieldsT ty (keyT ty d) l = some t → ∀ x ∈ l, ∃ t, keyT ty d x.type = some t := by
          intro l
          induction l with
          | nil => intro t _ x hx; cases hx
          | cons y l ih =>
            intro t ht x hx
            simp only [fieldsT] at ht
            split at ht
            · cases ht
            split at ht
            · rename_i h2 h3
              cases hx with
              | head => exact ⟨_, h2⟩
              | tail _ hx => exact ih _ h3 x hx
            · cases ht
        intro x hx
        obtain ⟨t', ht'⟩ := this _ _ ht x hx
        simp [ihd _ _ ht' n hdn]
      | interface ms => rw [hu] at ht; cases ht
      | _ => rfl
theorem ok_eqk {ty : Ty} (F : PF P ty) (hd : kdepth ≤ P.depth) (H : HRel X ι ow h w) {t u : Nat} {i : TyI} (f : TF P t i) (hu : (∃ fs, i.under = .struct fs) ∨ ∃ n e, i.under = .array n e) {kk : KT} (hk : keyT ty kdepth t = some kk) {x y : Operand} {neg : Bool} {op : BinOp}
    (hop : op = cond neg .neq .eql) (hi : ty t = some i)
    (ho : o.op = .binOp op t x y u) (E : EvRel ι ea er o.op.operands) (hs : sEqk neg kk x y nm ea h.get = some (v, ob)) : SOk X ι ow h w nm v ob ((execOp er o).run P w) := by
  have hx := E x (by rw [ho]; simp [Op.operands])
  have hy := E y (by rw [ho]; simp [Op.operands])
  simp only [execOp, ho]
  simp only [sEqk] at hs
  cases he : eqS kk (ea x) (ea y) with
  | none => rw [he] at hs; cases hs
  | some r =>
    rw [he] at hs; cases hs
    have hagg : ∃ a b, ea x = .agg a ∧ ea y = .agg b := by
      simp only [kdepth, keyT, hi] at hk
      rcases hu with ⟨fs, hu⟩ | ⟨n, e, hu⟩
      · rw [hu] at hk; exact fieldsT_agg hk he
      · rw [hu] at hk
        dsimp only at hk
        split at hk
        · cases hk
          obtain ⟨a, b, h1, h2, _⟩ := eqS_arrI he
          exact ⟨a, b, h1, h2⟩
        · cases hk
    have hq : (Op.equal t (er x) (er y)).run P w = .ok r w := eqS_sound F kdepth t kk hk 10000 (by decide) _ _ _ _ _ hx hy he
    obtain ⟨a, b, h1, h2⟩ := hagg
    rw [h1] at hx; rw [h2] at hy
    generalize er x = x' at *
    generalize er y = y' at *
    cases hx with
    | agg _ a' ha ra =>
    cases hy with
    | agg _ b' hb rb =>
      have hg : (eqGuard op t x y (.agg a') (.agg b')).run P w = .ok () w := by
        unfold eqGuard
        subst hop
        cases neg <;> simp [guardType F kdepth t kk hk P.depth hd]
      have hr : (do eqGuard op t x y (.agg a') (.agg b'); binOp op t (.agg a') (.agg b') : Sem Value).run P w = .ok (.bool (r != neg)) w := by
        simp only [Sem.run_bind, hg, Result.andThen_ok]
        subst hop
        cases neg with
        | true => simp [binOp, hq]
        | false => simp [binOp, hq]
      rw [run_v hr]
      exact SOk.val H (.bool _)
theorem mmL_sound (mx : Bool) : ∀ (l : List Operand) (x x' : Value) (r : Value), VRel ι x x' → (∀ y ∈ l, VRel ι (ea y) (er y)) → mmL mx ea x l = some r →
    ∃ r', ((l.map er).foldlM (cond mx Builtin.max2 Builtin.min2) x').run P w = .ok r' w ∧ VRel ι r r' := by
  intro l
  induction l with
  | nil => intro x x' r hx _ hr; cases hr; exact ⟨x', rfl, hx⟩
  | cons y l ih =>
    intro x x' r hx hl hr
    simp only [mmL] at hr
    have hy := hl y (by simp)
    cases hm : mm2 mx x (ea y) with
    | none => rw [hm] at hr; cases hr
    | some z =>
      rw [hm] at hr
      dsimp only at hr
      have : ∃ z', ((cond mx Builtin.max2 Builtin.min2) x' (er y)).run P w = .ok z' w ∧ VRel ι z z' := by
        generalize ea y = b at *
        generalize er y = b' at *
        unfold mm2 at hm
        split at hm
        · rename_i k p j q
          cases hx; cases hy
          cases e : eqK j k with
          | false => rw [e] at hm; cases hm
          | true =>
            rw [e] at hm; cases hm
            refine ⟨_, ?_, .int _ _⟩
            cases mx with
            | true =>
              simp only [cond_true, Builtin.max2, Sem.run_pure, ltI_eq]
              by_cases hpq : p < q <;> simp [hpq]
            | false =>
              simp only [cond_false, Builtin.min2, Sem.run_pure, ltI_eq]
              by_cases hpq : q < p <;> simp [hpq]
        · cases hm
      obtain ⟨z', h1, h2⟩ := this
      obtain ⟨r', h3, h4⟩ := ih z z' r h2 (fun y hy => hl y (by simp [hy])) hr
      refine ⟨r', ?_, h4⟩
      simp only [List.map_cons, List.foldlM_cons, Sem.run_bind, h1, Result.andThen_ok, h3]
theorem ok_mm (H : HRel X ι ow h w) {mx : Bool} {x : Operand} {xs : List Operand} {ts : Array TypeId}
    (ho : o.op = .call { callee := .builtin (cond mx .max .min), args := ⟨x :: xs⟩, argTypes := ts }) (E : EvRel ι ea er o.op.operands) (hs : sMm mx x xs nm ea h.get = some (v, ob)) :
    SOk X ι ow h w nm v ob ((execOp er o).run P w) := by
  have hx := E x (by rw [ho]; simp [Op.operands, Call.operands])
  have hl : ∀ y ∈ xs, VRel ι (ea y) (er y) := fun y hy => E y (by rw [ho]; simp [Op.operands, Call.operands, hy])
  rw [exec_builtin ho]
  simp only [sMm] at hs
  cases hm : mmL mx ea (ea x) xs with
  | none => rw [hm] at hs; cases hs
  | some r =>
    rw [hm] at hs; cases hs
    obtain ⟨r', h1, h2⟩ := mmL_sound (P := P) (w := w) mx xs _ _ _ hx hl hm
    cases mx with
    | true =>
      simp only [cond_true, builtin]
      rw [run_v (x := r') (w' := w) (by simpa [Builtin.max_] using h1)]
      exact SOk.val H h2
    | false =>
      simp only [cond_false, builtin]
      rw [run_v (x := r') (w' := w) (by simpa [Builtin.min_] using h1)]
      exact SOk.val H h2
theorem bytesOf_eq : ∀ (cs : List Value) (bs : List UInt8), bytesOf cs = some bs → ∃ ns : List Int, cs = ns.map (Value.int .u8) ∧ bs = ns.map fun n => UInt8.ofNat n.toNat := by
  intro cs
  induction cs with
  | nil => intro bs h; cases h; exact ⟨[], rfl, rfl⟩
  | cons c cs ih =>
    intro bs h
    unfold bytesOf at h
    split at h
    · rename_i e; cases e
    · rename_i n t e
      cases e
      cases hb : bytesOf cs with
      | none => rw [hb] at h; cases h
      | some r =>
        rw [hb] at h; cases h
        obtain ⟨ns, h1, h2⟩ := ih r hb
        exact ⟨n :: ns, by simp [h1], by simp [h2]⟩
    · cases h
theorem foldl_push : ∀ (ns : List Int) (s : List UInt8), ns.foldl (fun r n => r.push (UInt8.ofNat n.toNat)) (⟨⟨s⟩⟩ : ByteArray) = ⟨⟨s ++ ns.map fun n => UInt8.ofNat n.toNat⟩⟩ := by
  intro ns
  induction ns with
  | nil => intro s; simp
  | cons n ns ih =>
    intro s
    have : (⟨⟨s⟩⟩ : ByteArray).push (UInt8.ofNat n.toNat) = ⟨⟨s ++ [UInt8.ofNat n.toNat]⟩⟩ := by
      simp [ByteArray.push]
    rw [List.foldl_cons, this, ih]; simp
theorem LRel.ints {ns : List Int} {k : IntKind} : ∀ {t : List Value}, LRel ι (ns.map (Value.int k)) t → t = ns.map (Value.int k) := by
  induction ns with
  | nil => intro t h; cases h; rfl
  | cons n ns ih =>
    intro t h
    cases h with
    | cons h1 h2 => cases h1; rw [ih h2]; rfl
theorem ok_cvbs (H : HRel X ι ow h w) {s d e : Nat} {si di ei : TyI} (fs : TF P s si) (fd : TF P d di) (fe : TF P e ei) (hsu : si.under = .slice e) (hdu : di.under = .string) (he : ei.under = .int .u8) {x : Operand}
    (ho : o.op = .convert s d x) (E : EvRel ι ea er o.op.operands) (hs : sCvbs x nm ea h.get = some (v, ob)) : SOk X ι ow h w nm v ob ((execOp er o).run P w) := by
  have hx := E x (by rw [ho]; simp [Op.operands])
  simp only [execOp, ho]
  simp only [sCvbs] at hs
  generalize ea x = a at *
  generalize er x = b at *
  have conv : ∀ (a : Option Addr) (l c : Nat), (convert s d (.slice a l c)).run P w = (Conv.bytesToString (.slice a l c)).run P w := fun a l c =>
    run_convert_bytes_string w s d e a l c (by rw [fs.u, hsu]) (by rw [fe.u, he]) (by rw [fd.u, hdu])
  have fin : ∀ (a : Addr) (l c : Nat) (cs : List Value) (cs' : List Value) (bs : List UInt8), (loadCells a l).run P w = .ok cs'.toArray w → LRel ι cs cs' → bytesOf cs = some bs →
      SOk X ι ow h w nm (.string ⟨⟨bs⟩⟩) none ((do pure (Next.value (← convert s d (.slice (some a) l c))) : Sem Next).run P w) := by
    intro a l c cs cs' bs hl hr hb
    obtain ⟨ns, rfl, rfl⟩ := bytesOf_eq cs bs hb
    have := hr.ints
    subst this
    have h1 := run_bytesToString w a l c ns hl
    rw [run_v (x := .string ⟨⟨ns.map fun n => UInt8.ofNat n.toNat⟩⟩) (w' := w) (by
      rw [conv, h1]
      have := foldl_push ns []
      rw [show (ByteArray.empty : ByteArray) = ⟨⟨[]⟩⟩ from rfl, this]; simp)]
    exact SOk.val H (.string _)
  have zero : ∀ (a : Addr), (loadCells a 0).run P w = .ok ([] : List Value).toArray w := fun a => run_loadCells_list w a [] (fun j v e => by simp at e)
  have row : ∀ (n off len cap cap' : Nat) (sp : Option Nat) (l : Loc), ι n = some l → sp ≠ some 0 → (match firstOf h.get 1 len (.slice (some ⟨n, off, sp⟩) len cap) with
      | some cs => match bytesOf cs with
        | some bs => some (Value.string ⟨⟨bs⟩⟩, (none : Option AObj))
        | none => none
      | none => none) = some (v, ob) → SOk X ι ow h w nm v ob ((do pure (Next.value (← convert s d (.slice (some ⟨l.blk, l.base + off, none⟩) len cap'))) : Sem Next).run P w) := by
    intro n off len cap cap' sp l hl hsp hs
    cases hf : firstOf h.get 1 len (.slice (some ⟨n, off, sp⟩) len cap) with
    | none => rw [hf] at hs; cases hs
    | some cs =>
      rw [hf] at hs
      dsimp only at hs
      cases hb : bytesOf cs with
      | none => rw [hb] at hs; cases hs
      | some bs =>
        rw [hb] at hs; cases hs
        unfold firstOf at hf
        split at hf
        · rename_i e; cases e
        · rename_i e; cases e; exact absurd rfl hsp
        · rename_i b0 off0 sp0 _ _ _ e
          cases e
          cases len with
          | zero =>
            cases hf
            exact fin _ 0 cap' [] [] bs (zero _) .nil hb
          | succ len =>
            dsimp only at hf
            cases hg : h.get n with
            | none => rw [hg] at hf; cases hf
            | some p =>
              rw [hg] at hf
              cases p with
              | cells c k =>
                dsimp only at hf
                obtain ⟨_, c', elem, fr, h1, h2, h3, h4, h5, h6⟩ := H.cells hl hg
                obtain ⟨h7, rfl⟩ := subO_eq _ _ _ _ hf
                have e1 : Nat.mul (Nat.succ len) 1 = len + 1 := Nat.mul_one _
                rw [e1] at h7 hb hf
                refine fin _ (len + 1) cap' _ _ bs (run_loads h1 (l.base + off) (len + 1) (by omega)) ?_ hb
                exact h5.sub rfl h7
              | _ => cases hf
        · rename_i e; cases e
        · cases hf
  cases hx with
  | slNil n c =>
    dsimp only at hs
    cases n with
    | zero =>
      cases hs
      rw [run_v (x := .string ⟨⟨[]⟩⟩) (w' := w) (by rw [conv]; rfl)]
      exact SOk.val H (.string _)
    | succ n => cases hs
  | slEx n off len cap l hl => exact row n off len cap cap none l hl (by simp) hs
  | slGr n off len cap cap' l hl hlen hc hb => exact row n off len cap cap' _ l hl (by simp) hs
  | slEmp a c =>
    cases hs
    exact fin a 0 c [] [] [] (zero a) .nil rfl
  | _ => cases hs
theorem ok_mark (hX : X.local) (H : HRel X ι ow h w) {s d e : Nat} {si di ei : TyI} (fs : TF P s si) (fd : TF P d di) (fe : TF P e ei) (hsu : ∃ e', si.under = .slice e') (hdu : di.under = .slice e) (he : ei.under = .int .u8) (hsd : s = d) {x : Operand}
    (ho : o.op = .convert s d x) (E : EvRel ι ea er o.op.operands) (hs : sMark x nm ea h.get = some (v, ob)) : SOk X ι ow h w nm v ob ((execOp er o).run P w) := by
  have hx := E x (by rw [ho]; simp [Op.operands])
  obtain ⟨e', hsu⟩ := hsu
  simp only [execOp, ho]
  simp only [sMark] at hs
  generalize ea x = a at *
  generalize er x = b at *
  have row : ∀ (n off len cap : Nat) (l : Loc) (c : List Value) (k : Kind) (v : Value), ι n = some l → h.get n = some (.cells c k) → k ≠ .var → VRel ι v (.slice (some ⟨l.blk, l.base + off, none⟩) len cap) →
      SOk X ι ow h w nm v none ((do pure (Next.value (← convert s d (.slice (some ⟨l.blk, l.base + off, none⟩) len cap))) : Sem Next).run P w) := by
    intro n off len cap l c k v hl hg hk hv
    obtain ⟨l', hl', ho'⟩ := H.obj n _ hg
    rw [hl] at hl'; cases hl'
    obtain ⟨g1, c', elem, fr, g2, g3, g4, g5, g6, g7⟩ := ho'
    have hsh : w.shape? l.blk = some (elem, c'.size) := by simp [World.shape?, g2]
    have hrun : (convert s d (.slice (some ⟨l.blk, l.base + off, none⟩) len cap)).run P w = .ok (.slice (some ⟨l.blk, l.base + off, none⟩) len cap) (w.freeze ⟨l.blk, c'.size, none⟩ 1) := by
      subst hsd
      have hdu' : si.under = .slice e := by
        have := fs.u
        rw [fd.u] at this
        rw [← Option.some.inj this]
        exact hdu
      simp [convert, fs.under, hdu', fe.under, he, markStringish, shape, freeze, Sem.run, hsh]
    rw [run_v hrun]
    have hw' : (w.freeze ⟨l.blk, c'.size, none⟩ 1).heap[l.blk]? = some (.cells c' elem (c'.size, c'.size + 1)) := by
      simp only [World.freeze, Nat.one_ne_zero, if_false, Array.getElem?_modify, if_true, g2, Option.map_some]
      rcases g5 with rfl | rfl
      · simp
      · rw [g3]; simp
    have hoth : ∀ b, b ≠ l.blk → (w.freeze ⟨l.blk, c'.size, none⟩ 1).heap[b]? = w.heap[b]? := by
      intro b hb
      simp only [World.freeze, Nat.one_ne_zero, if_false, Array.getElem?_modify]
      rw [if_neg (fun e => hb e.symm)]
    have hsz : (w.freeze ⟨l.blk, c'.size, none⟩ 1).heap.size = w.heap.size := by simp [World.freeze]
    refine ⟨_, _, rfl, hv, by simp [World.freeze], by simp [World.freeze], hsz, fun b hb => hoth b (fun e => hb n (by simp [Heap.live, hg]) ((g1 b).2 e)), ?_⟩
    refine HRel.same hX H hg hl hsz (fun b hb => hoth b (fun e => hb ((g1 b).2 e))) ?_
    refine ⟨g1, c', elem, _, hw', g3, g4, .inr (by rw [g3]), g6, ?_⟩
    cases k with
    | var => exact absurd rfl hk
    | row => trivial
    | grown e => exact g7
  cases hx with
  | slEx n off len cap l hl =>
    dsimp only at hs
    cases hg : h.get n with
    | none => rw [hg] at hs; cases hs
    | some p =>
      rw [hg] at hs
      cases p with
      | cells c k =>
        cases k with
        | var => cases hs
        | row => cases hs; exact row n off len cap l c _ _ hl hg (by simp) (.slEx n off len cap l hl)
        | grown e => cases hs; exact row n off len cap l c _ _ hl hg (by simp) (.slEx n off len cap l hl)
      | _ => cases hs
  | slGr n off len cap cap' l hl hlen hc hb =>
    replace hs : (match h.get n with | some (.cells _ .row) => some (Value.slice (some ⟨n, off, some (l.esz + 1)⟩) len cap, (none : Option AObj)) | some (.cells _ (.grown _)) => some (Value.slice (some ⟨n, off, some (l.esz + 1)⟩) len cap, none) | _ => none) = some (v, ob) := hs
    cases hg : h.get n with
    | none => rw [hg] at hs; cases hs
    | some p =>
      rw [hg] at hs
      cases p with
      | cells c k =>
        cases k with
        | var => cases hs
        | row => cases hs; exact row n off len cap' l c _ _ hl hg (by simp) (.slGr n off len cap cap' l hl hlen hc hb)
        | grown e => cases hs; exact row n off len cap' l c _ _ hl hg (by simp) (.slGr n off len cap cap' l hl hlen hc hb)
      | _ => cases hs
  | _ => cases hs
end Go.AM

/- The other operations, but calls: stores, addresses held against one another, maps. -/
namespace Go.AM
variable {P : Program} {X : Opq} {ι : Emb} {ow : Own} {h : Heap} {w : World} {nm : Nat} {ea er : Operand → Value} {v : Value} {ob : Option AObj} {o : Oper} {h' : Heap}

def nextV : Next → Option Value
  | .value v => some v
  | .skip => some undef
  | _ => none
/-- what such an operation does -/
def HOk (X : Opq) (ι : Emb) (ow : Own) (h : Heap) (w : World) (v : Value) (h' : Heap) (r : Result Next) : Prop :=
  ∃ nx v' w' ι' ow', r = .ok nx w' ∧ nextV nx = some v' ∧ ι.ext ι' h.next ∧ VRel ι' v v' ∧ HRel X ι' ow' h' w' ∧ Fr ow h w ow' h' w'
theorem HOk.val (H : HRel X ι ow h w) {v v' : Value} (hv : VRel ι v v') {nx : Next} (hn : nextV nx = some v') : HOk X ι ow h w v h (.ok nx w) :=
  ⟨nx, v', w, ι, ow, rfl, hn, ι.ext_refl _, hv, H, Fr.refl _ _ _⟩
theorem HOk.turn (hX : X.local) (H : HRel X ι ow h w) {n : Nat} {p p' : AObj} {l : Loc} {w' : World} (hn : h.get n = some p) (hl : ι n = some l) (hs : w'.heap.size = w.heap.size)
    (hw : ∀ b, ¬ ow n b → w'.heap[b]? = w.heap[b]?) (hos : w'.os = w.os) (hout : w'.output = w.output) (ho : ORel X ι w' l (ow n) p') {v v' : Value} (hv : VRel ι v v') {nx : Next} (hnx : nextV nx = some v') :
    HOk X ι ow h w v (h.set n p') (.ok nx w') :=
  ⟨nx, v', w', ι, ow, rfl, hnx, ι.ext_refl _, hv, HRel.turn hX H hn hl hs hw ho, Fr.turn hn hs hw hos hout⟩
/-- the block of an object, set -/
def World.setB (w : World) (b : Nat) (ob : Obj) : World := { w with heap := w.heap.setIfInBounds b ob }
theorem setB_get {w : World} {b : Nat} {ob ob' : Obj} (h : w.heap[b]? = some ob') : (World.setB w b ob).heap[b]? = some ob := by
  have hb : b < w.heap.size := (Array.getElem?_eq_some_iff.1 h).1
  simp [World.setB, hb]
theorem setB_ne {w : World} {b c : Nat} {ob : Obj} (h : c ≠ b) : (World.setB w b ob).heap[c]? = w.heap[c]? := by
  simp only [World.setB]
  rw [Array.getElem?_setIfInBounds_ne (Ne.symm h)]
theorem setB_self {w : World} {b : Nat} {ob : Obj} (h : w.heap[b]? = some ob) : World.setB w b ob = w := by
  unfold World.setB
  have : w.heap.setIfInBounds b ob = w.heap := by
    apply Array.ext_getElem?
    intro j
    by_cases e : b = j
    · subst e
      have hb : b < w.heap.size := (Array.getElem?_eq_some_iff.1 h).1
      simp [hb, h]
      exact (Option.some.inj (by rw [← h]; simp [hb])).symm
    · rw [Array.getElem?_setIfInBounds_ne e]
  rw [this]
theorem HOk.setB (hX : X.local) (H : HRel X ι ow h w) {n : Nat} {p p' : AObj} {l : Loc} {ob : Obj} (hn : h.get n = some p) (hl : ι n = some l) (hown : ∀ b, ow n b ↔ b = l.blk)
    (ho : ORel X ι (World.setB w l.blk ob) l (ow n) p') {v v' : Value} (hv : VRel ι v v') {nx : Next} (hnx : nextV nx = some v') :
    HOk X ι ow h w v (h.set n p') (.ok nx (World.setB w l.blk ob)) :=
  HOk.turn hX H hn hl (by simp [World.setB]) (fun b hb => setB_ne fun e => hb ((hown b).2 e)) rfl rfl ho hv hnx
theorem setObj_map {w : World} {b : Nat} {es : Array MapEntry} {c : Nat} (hb : w.heap[b]? = some (.map es c)) (ob : Obj) : (setObj b ob).run P w = .ok () (World.setB w b ob) := by simp [setObj, Sem.run, hb, World.setB]

/-! ### stores -/
theorem oneL_all : ∀ (l : List Value), oneL l = true → ∀ v ∈ l, isOne v = true := by
  intro l
  induction l with
  | nil => intro _ v hv; cases hv
  | cons x l ih =>
    intro h v hv
    have h' : (isOne x && oneL l) = true := h
    rw [Bool.and_eq_true] at h'
    cases hv with
    | head => exact h'.1
    | tail _ hv => exact ih h'.2 v hv
theorem one_rel {v v' : Value} (h : VRel ι v v') (h1 : isOne v = true) : v'.oneCell' = true := by
  cases h <;> first | rfl | (cases h1)
theorem ones_rel {l l' : List Value} (h : LRel ι l l') (h1 : oneL l = true) : ∀ v ∈ l', v.oneCell' = true := by
  replace h1 := oneL_all l h1
  induction h with
  | nil => intro v hv; cases hv
  | cons ha hs ih =>
    intro v hv
    cases hv with
    | head => exact one_rel ha (h1 _ (by simp))
    | tail _ hv => exact ih (fun v hv => h1 v (by simp [hv])) v hv
/-- some cells of an object are written over -/
theorem write_rel (hX : X.local) (H : HRel X ι ow h w) {n off : Nat} {l : Loc} {c c2 : List Value} {k : Kind} (hl : ι n = some l) (hg : h.get n = some (.cells c k)) {vs vs' : List Value} (hv : LRel ι vs vs') (h1 : oneL vs = true)
    (hs : spliceO off vs c = some c2) : ∃ w', (storeCells ⟨l.blk, l.base + off, none⟩ vs').run P w = .ok () w' ∧ w'.heap.size = w.heap.size ∧ (∀ b, ¬ ow n b → w'.heap[b]? = w.heap[b]?) ∧ w'.os = w.os ∧ w'.output = w.output ∧
      ORel X ι w' l (ow n) (.cells c2 k) := by
  obtain ⟨l', hl', g1, c', elem, fr, g2, g3, g4, g5, g6, g7⟩ := H.obj n _ hg
  rw [hl] at hl'; cases hl'
  have hlen := hv.length
  obtain ⟨hc2, hb⟩ := spliceO_length hs
  have hrun := run_stores (P := P) l.blk (l.base + off) elem fr vs' 0 c' w g2 (by rw [g3]; exact g5) (by omega) (ones_rel hv h1)
  refine ⟨_, hrun, setRow_size _ _ _, fun b hb => setRow_other _ _ _ _ (fun e => hb ((g1 b).2 e)), rfl, rfl, g1, _, elem, fr, setRow_heap w l.blk c' _ elem _ g2, ?_, by omega, g5, ?_, by rw [hc2]; exact g7⟩
  · simp; omega
  · intro j v hj
    rw [spliceO_get hs] at hj
    by_cases hin : off ≤ j ∧ j < off + vs.length
    · rw [if_pos hin] at hj
      obtain ⟨v', hv', hr⟩ := hv.get hj
      refine ⟨v', ?_, hr⟩
      have hlt : j - off < vs'.length := (List.getElem?_eq_some_iff.1 hv').1
      have : (c'.toList.take (l.base + off + 0) ++ vs' ++ c'.toList.drop (l.base + off + 0 + vs'.length))[l.base + j]? = some v' := by
        rw [List.append_assoc, List.getElem?_append_right (by simp; omega), List.getElem?_append_left (by simp; omega)]
        rw [← hv']; congr 1; simp; omega
      simpa using this
    · rw [if_neg hin] at hj
      obtain ⟨v', hv', hr⟩ := g6 j v hj
      refine ⟨v', ?_, hr⟩
      have : (c'.toList.take (l.base + off + 0) ++ vs' ++ c'.toList.drop (l.base + off + 0 + vs'.length))[l.base + j]? = some v' := by
        by_cases hj2 : j < off
        · rw [List.append_assoc, List.getElem?_append_left (by simp; omega), List.getElem?_take_of_lt (by omega)]
          simpa using hv'
        · have hjc : j < c.length := (List.getElem?_eq_some_iff.1 hj).1
          rw [List.getElem?_append_right (by simp; omega), List.getElem?_drop]
          have : l.base + off + 0 + vs'.length + (l.base + j - (c'.toList.take (l.base + off + 0) ++ vs').length) = l.base + j := by simp; omega
          rw [this]; simpa using hv'
      simpa using this
theorem run_u {s : Sem Unit} {w w' : World} (h : s.run P w = .ok () w') : (do s; pure Next.skip : Sem Next).run P w = .ok .skip w' := by simp [h]
theorem ok_store (hX : X.local) (H : HRel X ι ow h w) {t : Nat} {i : TyI} (f : TF P t i) {a x : Operand} (ho : o.op = .store t a x) (E : EvRel ι ea er o.op.operands) (hs : hStore i.size a x ea h = some (v, h')) :
    HOk X ι ow h w v h' ((execOp er o).run P w) := by
  have ha := E a (by rw [ho]; simp [Op.operands])
  have hx := E x (by rw [ho]; simp [Op.operands])
  simp only [execOp, ho]
  simp only [hStore] at hs
  generalize ea a = a1 at *
  generalize er a = a2 at *
  cases ha with
  | ptr n off l hl =>
    dsimp only at hs
    cases hg : h.get n with
    | none => rw [hg] at hs; cases hs
    | some p =>
      rw [hg] at hs
      cases p with
      | cells c k =>
        cases e1 : Nat.beq (vcells (ea x)).length i.size with
        | false => rw [e1] at hs; cases hs
        | true =>
          rw [e1] at hs; dsimp only at hs
          cases e2 : spliceO off (vcells (ea x)) c with
          | none => rw [e2] at hs; cases hs
          | some c2 =>
            cases e3 : oneL (vcells (ea x)) with
            | false => rw [e2, e3] at hs; cases hs
            | true =>
              rw [e2, e3] at hs; cases hs
              have hcl := hx.cells
              have hsz : (vcells (ea x)).length = i.size := Nat.eq_of_beq_eq_true e1
              obtain ⟨w', g1, g2, g3, g4, g5, g6⟩ := write_rel (P := P) hX H hl hg hcl e3 e2
              have hr : (Instr.storeAt t (.pointer (some ⟨l.blk, l.base + off, none⟩)) (er x)).run P w = .ok () w' := by
                have : (er x).cells.size = i.size := by rw [← hsz, hcl.length]; simp
                simp [Instr.storeAt, Instr.sureAddr, storeVar, f.size, this, g1]
              rw [run_u hr]
              exact HOk.turn hX H hg hl g2 g3 g4 g5 g6 (VRel.undef ι) rfl
      | _ => cases hs
  | _ => cases hs

/-! ### addresses held against one another -/
theorem ok_eqp (H : HRel X ι ow h w) {t u e : Nat} {i ei : TyI} (f : TF P t i) (hu : i.under = .pointer e) (fe : TF P e ei) (he : ei.size ≠ 0) {x y : Operand} {neg : Bool} {op : BinOp} (hop : op = cond neg .neq .eql)
    (ho : o.op = .binOp op t x y u) (E : EvRel ι ea er o.op.operands) (hs : hEqp neg x y ea h = some (v, h')) : HOk X ι ow h w v h' ((execOp er o).run P w) := by
  have hx := E x (by rw [ho]; simp [Op.operands])
  have hy := E y (by rw [ho]; simp [Op.operands])
  simp only [execOp, ho]
  simp only [hEqp] at hs
  have fin : ∀ (a b : Option Addr) (r : Bool), (Op.equal t (.pointer a) (.pointer b)).run P w = .ok r w → v = .bool (r != neg) → h' = h →
      HOk X ι ow h w v h' ((do pure (Next.value (← (do eqGuard op t x y (.pointer a) (.pointer b); binOp op t (.pointer a) (.pointer b) : Sem Value))) : Sem Next).run P w) := by
    intro a b r hr hv hh
    subst hv hh
    have hr2 : (do eqGuard op t x y (.pointer a) (.pointer b); binOp op t (.pointer a) (.pointer b) : Sem Value).run P w = .ok (.bool (r != neg)) w := by
      simp only [Sem.run_bind, eqGuard_scalar (P := P) (w := w) (a := .pointer a) (b := .pointer b) ⟨by simp, by simp⟩, Result.andThen_ok]
      subst hop
      cases neg with
      | true => simp [binOp, hr]
      | false => simp [binOp, hr]
    rw [run_v hr2]
    exact HOk.val H (.bool _) rfl
  generalize ea x = a1 at *
  generalize er x = a2 at *
  generalize ea y = b1 at *
  generalize er y = b2 at *
  cases hx with
  | ptrNil =>
    cases hy with
    | ptrNil =>
      cases hs
      exact fin none none true (equal_run fun d => by unfold Op.equalIn; simp [f.under, hu]) rfl rfl
    | ptr n off l hl =>
      cases hs
      exact fin none _ false (equal_run fun d => by unfold Op.equalIn; simp [f.under, hu]) rfl rfl
    | _ => cases hs
  | ptr n off l hl =>
    cases hy with
    | ptrNil =>
      cases hs
      exact fin _ none false (equal_run fun d => by unfold Op.equalIn; simp [f.under, hu]) rfl rfl
    | ptr m off2 l2 hl2 =>
      dsimp only at hs
      split at hs
      · rename_i x1 c1 x2 c2 hg1 hg2
        cases hs
        obtain ⟨o1, c', elem, fr, g1, g2, g3, g4, g5, g6⟩ := H.cells hl hg1
        obtain ⟨o2, c'', elem2, fr2, k1, k2, k3, k4, k5, k6⟩ := H.cells hl2 hg2
        obtain ⟨rfl, hb1, hs1⟩ := g6
        obtain ⟨rfl, hb2, hs2⟩ := k6
        refine fin _ _ (Nat.beq n m && Nat.beq off off2) (equal_run fun d => ?_) rfl rfl
        unfold Op.equalIn
        simp only [Sem.run_bind, f.under, hu, Result.andThen_ok, fe.size]
        rw [if_pos he]
        unfold sameAddr
        by_cases hnm : n = m
        · subst hnm
          rw [hl] at hl2; cases hl2
          by_cases hoff : off = off2
          · subst hoff; simp [beq_same]
          · have hne : ((⟨l.blk, l.base + off, none⟩ : Addr) == ⟨l.blk, l.base + off2, none⟩) = false := by
              rw [beq_eq_false_iff_ne]; intro e; injection e with _ e2 _; omega
            simp [beq_ne hoff, hne, beq_same]
        · have hne : l.blk ≠ l2.blk := fun e => hnm (H.dis n m l.blk (by simp [Heap.live, hg1]) (by simp [Heap.live, hg2]) ((o1 _).2 rfl) ((o2 _).2 e))
          have hf1 : ∀ q, w.frozen? ⟨l.blk, q, none⟩ = false := fun q => by simp [World.frozen?, g1]
          have hf2 : ∀ q, w.frozen? ⟨l2.blk, q, none⟩ = false := fun q => by simp [World.frozen?, k1]
          have hsh1 : w.shape? l.blk = some (elem, c'.size) := by simp [World.shape?, g1]
          have hsh2 : w.shape? l2.blk = some (elem2, c''.size) := by simp [World.shape?, k1]
          simp [beq_ne hnm, hne, frozen, Sem.run, hf1, hf2, noView, viewAt, shape, hsh1, hsh2, mayBeOne, stringish]
      · cases hs
    | _ => cases hs
  | _ => cases hs
end Go.AM

