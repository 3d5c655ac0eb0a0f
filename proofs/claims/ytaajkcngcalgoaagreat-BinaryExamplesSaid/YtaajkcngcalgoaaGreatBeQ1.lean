/- The law BinaryExamples: for every input the call returns true and leaves its arguments as they were. No condition. This text: a part of what that proof needs. -/
import Derived.OrdersIn
import Derived.RangeFuncLeaves
import Derived.RangeFuncRecord
import Derived.RangeFuncCalls
import Derived.Scope
import Derived.TacticsIn
import Derived.Laws.Tables
import Derived.Laws.OwnMore
import Derived.Test.YtaajkcngcalgoaaGreatRows
import Derived.WalkKit
import Derived.ProofKit
import Derived.OpenShut
import Derived.RowKit3
import Derived.Test.YtaajkcngcalgoaaGreatProg
import Derived.KernelRfl
namespace Go.Vc
open Go
abbrev Fr := List Value
abbrev FF (l : Option Nat) : Fence := { fn := fun _ => True, depth := none, alive := false, round := l }
inductive Ty where
  | other
  | bool
  | string
  | int (k : IntKind)
  | slice (sz : Nat)
  | array (len sz : Nat) (zero : List Value)
  | struct (fs : List (Nat × Nat × Bool)) (zero : List Value)
  deriving Inhabited
def SzOK (P : Program) (e : TypeId) (sz : Nat) : Prop := ∃ i, P.info? e = some i ∧ i.size = sz
def AggOK (P : Program) (e : TypeId) (agg : Bool) : Prop :=
  ∃ d, P.underlying e = some d ∧ (agg = match d with | .struct _ | .array _ _ => true | _ => false)
def ZeroOK (P : Program) (t : TypeId) (zero : List Value) : Prop := ∃ i v, P.info? t = some i ∧ i.zero = some v ∧ v.cells.toList = zero
def FieldsOK (P : Program) : List Field → List (Nat × Nat × Bool) → Prop
  | [], [] => True
  | f :: r, (off, sz, agg) :: s => f.offset = off ∧ SzOK P f.type sz ∧ AggOK P f.type agg ∧ FieldsOK P r s
  | _, _ => False
def TyOK (P : Program) (τ : TypeId → Ty) : Prop := ∀ t, match τ t with
  | .other => True
  | .bool => P.underlying t = some .bool
  | .string => P.underlying t = some .string
  | .int k => P.underlying t = some (.int k)
  | .slice sz => ∃ e, P.underlying t = some (.slice e) ∧ SzOK P e sz
  | .array len sz zero => ∃ e, P.underlying t = some (.array len e) ∧ SzOK P e sz ∧ ZeroOK P t zero
  | .struct fs zero => ∃ fields, P.underlying t = some (.struct fields) ∧ FieldsOK P fields.toList fs ∧ ZeroOK P t zero
def intV (op : BinOp) (k : IntKind) (a : Int) (k' : IntKind) (b : Int) : Option Value :=
  match op with
  | .shl => if b < 0 then none else some (.int k (k.wrap (a * 2 ^ (min b.toNat k.bits))))
  | .shr => if b < 0 then none else some (.int k (a.fdiv (2 ^ (min b.toNat k.bits))))
  | .add => if k = k' then some (.int k (k.wrap (a + b))) else none
  | .sub => if k = k' then some (.int k (k.wrap (a - b))) else none
  | .mul => if k = k' then some (.int k (k.wrap (a * b))) else none
  | .quo => if k = k' then (if b = 0 then none else some (.int k (k.wrap (a.tdiv b)))) else none
  | .rem => if k = k' then (if b = 0 then none else some (.int k (a.tmod b))) else none
  | .and => if k = k' then some (.int k (k.wrap (BitVec.ofInt k.bits a &&& BitVec.ofInt k.bits b).toNat)) else none
  | .or => if k = k' then some (.int k (k.wrap (BitVec.ofInt k.bits a ||| BitVec.ofInt k.bits b).toNat)) else none
  | .xor => if k = k' then some (.int k (k.wrap (BitVec.ofInt k.bits a ^^^ BitVec.ofInt k.bits b).toNat)) else none
  | .andNot => none
  | .eql => if k = k' then some (.bool (a == b)) else none
  | .neq => if k = k' then some (.bool (a != b)) else none
  | .lss => if k = k' then some (.bool (a < b)) else none
  | .leq => if k = k' then some (.bool (a ≤ b)) else none
  | .gtr => if k = k' then some (.bool (a > b)) else none
  | .geq => if k = k' then some (.bool (a ≥ b)) else none
def binV (ty : Ty) (op : BinOp) (x y : Value) : Option Value :=
  match x, y with
  | .int k a, .int k' b => intV op k a k' b
  | .bool a, .bool b => match ty, op with
    | .bool, .eql => some (.bool (a == b))
    | .bool, .neq => some (.bool (!(a == b)))
    | _, _ => none
  | _, _ => none
def unV (op : UnOp) (x : Value) : Option Value :=
  match op, x with
  | .neg, .int k n => some (.int k (k.wrap (0 - n)))
  | .not, .bool b => some (.bool !b)
  | _, _ => none
def convV (dst : Ty) (x : Value) : Option Value :=
  match dst, x with
  | .int k, .int _ n => some (.int k (k.wrap n))
  | _, _ => none
def extrV (x : Value) (i : Nat) : Option Value :=
  match x with
  | .tuple vs => vs.toList[i]?
  | _ => none
def pickV (c a b : Value) : Option Value :=
  match c with
  | .bool c => some (if c then a else b)
  | _ => none
def nilV (x : Value) : Option Value :=
  match x with
  | .pointer (some a) => some (.pointer (some a))
  | _ => none
def plus (a : Addr) (n : Nat) : Option Addr :=
  match a with
  | ⟨b, o, none⟩ => some ⟨b, o + n, none⟩
  | _ => none
def fieldAddrV (ty : Ty) (f : Nat) (x : Value) : Option Value :=
  match ty, x with
  | .struct fs _, .pointer (some a) =>
    match fs[f]? with
    | some (off, sz, _) => if sz = 0 then none else (plus a off).map fun a => .pointer (some a)
    | none => none
  | _, _ => none
def cut (cs : List Value) (off sz : Nat) : List Value := (cs.drop off).take sz
def fieldV (ty : Ty) (f : Nat) (x : Value) : Option Value :=
  match ty, x with
  | .struct fs _, .agg cs =>
    match fs[f]? with
    | some (off, sz, agg) => if agg then some (.agg (cut cs.toList off sz).toArray) else cs.toList[off]?
    | none => none
  | _, _ => none
def indexAddrV (ty : Ty) (x i : Value) : Option Value :=
  match i with
  | .int _ (.ofNat j) =>
    match ty, x with
    | .slice sz, .slice (some a) len _ => if j < len then (plus a (j * sz)).map fun a => .pointer (some a) else none
    | .array len sz _, .pointer (some a) => if j < len then (plus a (j * sz)).map fun a => .pointer (some a) else none
    | _, _ => none
  | _ => none
def natV : Value → Option Nat
  | .int _ (.ofNat j) => some j
  | _ => none
def plus? (a : Option Addr) (n : Nat) : Option (Option Addr) :=
  match a with
  | none => some none
  | some a => (plus a n).map some
def sliceV (ty : Ty) (x : Value) (lo hi : Option Value) : Option Value :=
  match ty, x with
  | .slice sz, .slice a len cap =>
    match (match lo with | none => some 0 | some v => natV v), (match hi with | none => some len | some v => natV v) with
    | some l, some h =>
      if l ≤ h ∧ h ≤ cap then (if l = 0 then some (.slice a h cap) else if l < cap then (plus? a (l * sz)).map fun a => .slice a (h - l) (cap - l) else none) else none
    | _, _ => none
  | _, _ => none
def lenV (ty : Ty) (x : Value) : Option Value :=
  match ty, x with
  | .slice _, .slice _ n _ => some (.int .i64 n)
  | .string, .string s => some (.int .i64 s.size)
  | _, _ => none
def maxV (x y : Value) : Option Value :=
  match x, y with
  | .int k a, .int _ b => some (.int k (if b > a then b else a))
  | _, _ => none
def minV (x y : Value) : Option Value :=
  match x, y with
  | .int k a, .int _ b => some (.int k (if b < a then b else a))
  | _, _ => none
def over (cs : List Value) (off : Nat) (vs : List Value) : List Value := cs.take off ++ vs ++ cs.drop (off + vs.length)
def fillV (place : Nat → Option (Nat × Nat)) (cs : List Value) : List (Nat × Value) → Option (List Value)
  | [] => some cs
  | (i, v) :: r =>
    match place i with
    | none => none
    | some (off, sz) => if v.cells.toList.length = sz ∧ off + sz ≤ cs.length then fillV place (over cs off v.cells.toList) r else none
def buildV (ty : Ty) (ps : List (Nat × Value)) : Option Value :=
  match ty with
  | .struct fs zero => (fillV (fun i => (fs[i]?).map fun f => (f.1, f.2.1)) zero ps).map fun cs => .agg cs.toArray
  | .array _ sz zero => (fillV (fun i => some (i * sz, sz)) zero ps).map fun cs => .agg cs.toArray
  | _ => none
def pv (τ : TypeId → Ty) (op : Op) (ρ : Operand → Value) : Option Value :=
  match op with
  | .move x => some (ρ x)
  | .assign x => some (ρ x)
  | .pick c a b => pickV (ρ c) (ρ a) (ρ b)
  | .binOp o t x y _ => binV (τ t) o (ρ x) (ρ y)
  | .unOp o _ x => unV o (ρ x)
  | .convert src dst x => match τ src with | .int _ => convV (τ dst) (ρ x) | _ => none
  | .extract x i => extrV (ρ x) i
  | .makeFunc fn first cap => some (.func fn (first.toList.map ρ).toArray (cap.toList.map ρ).toArray)
  | .fieldAddr s x f => fieldAddrV (τ s) f (ρ x)
  | .field s x f => fieldV (τ s) f (ρ x)
  | .indexAddr t x i => indexAddrV (τ t) (ρ x) (ρ i)
  | .slice t x lo hi none => sliceV (τ t) (ρ x) (lo.map ρ) (hi.map ρ)
  | .nilCheck x => nilV (ρ x)
  | .build t ps => buildV (τ t) (ps.toList.map fun p => (p.1, ρ p.2))
  | .call { callee := .builtin .len, args := ⟨[x]⟩, argTypes := ⟨[t]⟩ } => lenV (τ t) (ρ x)
  | .call { callee := .builtin .max, args := ⟨[x, y]⟩, .. } => maxV (ρ x) (ρ y)
  | .call { callee := .builtin .min, args := ⟨[x, y]⟩, .. } => minV (ρ x) (ρ y)
  | _ => none
def pureOp (τ : TypeId → Ty) : Op → Bool
  | .move _ | .assign _ | .pick .. | .unOp .. | .convert .. | .extract .. | .makeFunc .. | .fieldAddr .. | .field .. | .indexAddr .. | .nilCheck _ | .build .. => true
  | .binOp _ t _ _ _ => match τ t with | .int _ | .bool => true | _ => false
  | .slice _ _ _ _ none => true
  | .call { callee := .builtin .len, .. } | .call { callee := .builtin .max, .. } | .call { callee := .builtin .min, .. } => true
  | _ => false
def moveOp : Op → Bool
  | .move _ | .assign _ => true
  | _ => false
section
variable {P : Program} {τ : TypeId → Ty}
@[simp] theorem run_pure {α : Type} (P : Program) (a : α) (w : World) : (pure a : Sem α).run P w = .ok a w := rfl
@[simp] theorem run_Pure {α : Type} (P : Program) (a : α) (w : World) : (Sem.pure a : Sem α).run P w = .ok a w := rfl
theorem run_underlying {t : TypeId} {d : TypeDesc} (h : P.underlying t = some d) (w : World) : (underlying t).run P w = .ok d w := by
  simp [underlying, program, Sem.run_bind, Result.andThen, Sem.run, h]
theorem run_info {t : TypeId} {i : TypeInfo} (h : P.info? t = some i) (w : World) : (typeInfo t).run P w = .ok i w := by
  simp [typeInfo, program, Sem.run_bind, Result.andThen, Sem.run, h]
theorem run_sizeOf {t : TypeId} {n : Nat} (h : SzOK P t n) (w : World) : (sizeOf t).run P w = .ok n w := by
  obtain ⟨i, hi, rfl⟩ := h
  simp [sizeOf, Result.andThen, run_info hi]
theorem run_isAgg {t : TypeId} {b : Bool} (h : AggOK P t b) (w : World) : (isAgg t).run P w = .ok b w := by
  obtain ⟨d, hd, rfl⟩ := h
  cases d <;> simp [isAgg, Sem.run_bind, Result.andThen, run_underlying hd]
theorem run_zero {t : TypeId} {z : List Value} (h : ZeroOK P t z) (w : World) : ∃ v, (zeroValue t).run P w = .ok v w ∧ v.cells.toList = z := by
  obtain ⟨i, v, hi, hv, rfl⟩ := h
  exact ⟨v, by simp [zeroValue, Sem.run_bind, Result.andThen, run_info hi, hv], rfl⟩
theorem run_intV {op : BinOp} {k k' : IntKind} {a b : Int} {v : Value} {t : TypeId} (h : intV op k a k' b = some v) (w : World) :
    (binOp op t (.int k a) (.int k' b)).run P w = .ok v w := by
  cases op <;> simp only [intV] at h <;> (repeat' split at h) <;>
    simp_all [binOp, Op.shift, Op.intArith, Op.intDiv, Op.intBits, Op.intCmp] <;> omega
theorem run_equalIn_bool {t : TypeId} (h : P.underlying t = some .bool) (d : Nat) (a b : Bool) (w : World) : (Op.equalIn (d + 1) t (.bool a) (.bool b)).run P w = .ok (a == b) w := by
  simp [Op.equalIn, Sem.run_bind, Result.andThen, run_underlying h]
theorem run_equal_bool {t : TypeId} (h : P.underlying t = some .bool) (a b : Bool) (w : World) : (Op.equal t (.bool a) (.bool b)).run P w = .ok (a == b) w :=
  run_equalIn_bool h 9999 a b w
theorem run_bools {op : BinOp} {t : TypeId} {a b : Bool} {v : Value} (ht : P.underlying t = some .bool)
    (h : (match op with | .eql => some (.bool (a == b)) | .neq => some (.bool (!(a == b))) | _ => (none : Option Value)) = some v) (w : World) :
    (binOp op t (.bool a) (.bool b)).run P w = .ok v w := by
  cases op <;> simp only [Option.some.injEq, reduceCtorEq] at h
  · subst h
    show (do pure (Value.bool (← Op.equal t (.bool a) (.bool b))) : Sem Value).run P w = _
    rw [Sem.run_bind, run_equal_bool ht]; rfl
  · subst h
    show (do pure (Value.bool (!(← Op.equal t (.bool a) (.bool b)))) : Sem Value).run P w = _
    rw [Sem.run_bind, run_equal_bool ht]; rfl
theorem run_eqGuard_int (op : BinOp) (t : TypeId) (x y : Operand) (k k' : IntKind) (a b : Int) (w : World) : (eqGuard op t x y (.int k a) (.int k' b)).run P w = .ok () w := by
  cases op <;> rfl
theorem run_eqGuard_bool (op : BinOp) (t : TypeId) (x y : Operand) (a b : Bool) (w : World) : (eqGuard op t x y (.bool a) (.bool b)).run P w = .ok () w := by
  cases op <;> rfl
theorem run_binV {op : BinOp} {x y : Operand} {a b v : Value} {t : TypeId} (hτ : TyOK P τ) (h : binV (τ t) op a b = some v) (w : World) :
    (do eqGuard op t x y a b; binOp op t a b : Sem Value).run P w = .ok v w := by
  unfold binV at h
  split at h
  · rw [Sem.run_bind, run_eqGuard_int]
    exact run_intV h w
  · rename_i p q
    have ht := hτ t
    rw [Sem.run_bind, run_eqGuard_bool]
    refine run_bools (op := op) ?_ ?_ w
    · split at h <;> first | (rename_i e; rw [e] at ht; exact ht) | simp at h
    · split at h <;> first | exact h | simp at h
  · simp at h
theorem run_unV {op : UnOp} {x v : Value} (h : unV op x = some v) (w : World) : (Op.unary op x).run P w = .ok v w := by
  unfold unV at h
  split at h <;> simp_all [Op.unary, Op.intArith]
theorem run_convV {src dst : TypeId} {x v : Value} (hτ : TyOK P τ) (hs : ∃ d, P.underlying src = some d) (h : convV (τ dst) x = some v) (w : World) : (convert src dst x).run P w = .ok v w := by
  unfold convV at h
  split at h
  · rename_i k k' n e
    have ht := hτ dst
    rw [e] at ht
    obtain ⟨d, hd⟩ := hs
    simp only [Option.some.injEq] at h
    subst h
    simp [convert, Sem.run_bind, Result.andThen, run_underlying hd, run_underlying ht, Conv.intToInt]
  · simp at h
theorem run_extrV {x v : Value} {i : Nat} (h : extrV x i = some v) (w : World) : (Instr.extract x i).run P w = .ok v w := by
  unfold extrV at h
  split at h
  · rename_i vs
    have h' : vs[i]? = some v := by simpa using h
    simp [Instr.extract, h']
  · simp at h
theorem fields_get {fields : List Field} {fs : List (Nat × Nat × Bool)} (h : FieldsOK P fields fs) {i : Nat} {x : Nat × Nat × Bool} (hx : fs[i]? = some x) :
    ∃ f, fields[i]? = some f ∧ f.offset = x.1 ∧ SzOK P f.type x.2.1 ∧ AggOK P f.type x.2.2 := by
  induction fields generalizing fs i with
  | nil => cases fs with
    | nil => simp at hx
    | cons => simp [FieldsOK] at h
  | cons f r ih => cases fs with
    | nil => simp at hx
    | cons y s =>
      obtain ⟨o, z, g⟩ := y
      obtain ⟨h1, h2, h3, h4⟩ := h
      cases i with
      | zero => simp at hx; subst hx; exact ⟨f, by simp, h1, h2, h3⟩
      | succ i => simpa using ih h4 (by simpa using hx)
theorem plus_add {a b : Addr} {n : Nat} (h : plus a n = some b) : a.add n = b := by
  unfold plus at h
  split at h
  · simp only [Option.some.injEq] at h
    subst h
    unfold Addr.add
    split <;> simp_all
  · simp at h
theorem run_fieldAddrV {s : TypeId} {f : Nat} {x v : Value} (hτ : TyOK P τ) (h : fieldAddrV (τ s) f x = some v) (w : World) :
    (Instr.fieldAt s x f).run P w = .ok v w := by
  unfold fieldAddrV at h
  split at h
  · rename_i fs zero a e
    split at h
    · rename_i off sz ag hf
      have ht := hτ s
      rw [e] at ht
      obtain ⟨fields, hu, hfs, _⟩ := ht
      obtain ⟨fd, h1, h2, h3, _⟩ := fields_get hfs hf
      have h1' : fields[f]? = some fd := by simpa using h1
      split at h
      · simp at h
      · rename_i hz
        simp only [Option.map_eq_some_iff] at h
        obtain ⟨b, hb, rfl⟩ := h
        have := plus_add hb
        simp at h2
        simp [Instr.fieldAt, Sem.run_bind, Result.andThen, run_underlying hu, h1', Instr.sureAddr, fieldPlace, run_sizeOf h3, hz, h2, this]
    · simp at h
  · simp at h
theorem cut_extract (cs : Array Value) (off sz : Nat) : (cut cs.toList off sz).toArray = cs.extract off (off + sz) := by
  apply Array.ext'
  simp [cut, List.take_drop]
theorem run_part {t : TypeId} {cs : Array Value} {off sz : Nat} {ag : Bool} {v : Value} (h1 : SzOK P t sz) (h2 : AggOK P t ag)
    (h : (if ag then some (.agg (cut cs.toList off sz).toArray) else cs.toList[off]?) = some v) (w : World) : (part t cs off).run P w = .ok v w := by
  cases ag with
  | true =>
    simp only [if_true, Option.some.injEq] at h
    subst h
    simp [part, Sem.run_bind, Result.andThen, run_isAgg h2, run_sizeOf h1, cut_extract]
  | false =>
    have h' : cs[off]? = some v := by simpa using h
    simp [part, Sem.run_bind, Result.andThen, run_isAgg h2, h']
theorem run_fieldV {s : TypeId} {f : Nat} {x v : Value} (hτ : TyOK P τ) (h : fieldV (τ s) f x = some v) (w : World) :
    (Instr.field s x f).run P w = .ok v w := by
  unfold fieldV at h
  split at h
  · rename_i fs zero cs e
    split at h
    · rename_i off sz ag hf
      have ht := hτ s
      rw [e] at ht
      obtain ⟨fields, hu, hfs, _⟩ := ht
      obtain ⟨fd, h1, h2, h3, h4⟩ := fields_get hfs hf
      have h1' : fields[f]? = some fd := by simpa using h1
      simp at h2
      have := run_part (P := P) h3 h4 h w
      simp [Instr.field, Sem.run_bind, Result.andThen, run_underlying hu, h1', asAgg, h2, this]
    · simp at h
  · simp at h
theorem run_indexAddrV {t : TypeId} {x i v : Value} (hτ : TyOK P τ) (h : indexAddrV (τ t) x i = some v) (w : World) :
    (Instr.indexAt t x i).run P w = .ok v w := by
  unfold indexAddrV at h
  split at h
  · rename_i k j
    split at h
    · rename_i sz a len cap e
      split at h
      · rename_i hj
        simp only [Option.map_eq_some_iff] at h
        obtain ⟨b, hb, rfl⟩ := h
        have ht := hτ t
        rw [e] at ht
        obtain ⟨el, hu, hs⟩ := ht
        have h0 : (0 : Int) ≤ j ∧ (j : Int) < len := ⟨by omega, by omega⟩
        have := plus_add hb
        simp [Instr.indexAt, Sem.run_bind, Result.andThen, run_underlying hu, asIntOf, run_sizeOf hs, this, hj]
      · simp at h
    · rename_i len sz zero a e
      split at h
      · rename_i hj
        simp only [Option.map_eq_some_iff] at h
        obtain ⟨b, hb, rfl⟩ := h
        have ht := hτ t
        rw [e] at ht
        obtain ⟨el, hu, hs, _⟩ := ht
        have := plus_add hb
        simp [Instr.indexAt, Sem.run_bind, Result.andThen, run_underlying hu, asIntOf, run_sizeOf hs, this, hj, Instr.sureAddr]
      · simp at h
    · simp at h
  · simp at h
theorem run_lenV {t ty : TypeId} {x v : Value} (hτ : TyOK P τ) (h : lenV (τ t) x = some v) (w : World) :
    (Builtin.len_ #[t] ty #[x]).run P w = .ok v w := by
  have ht := hτ t
  unfold lenV at h
  split at h
  · rename_i e
    rw [e] at ht
    obtain ⟨el, hu, _⟩ := ht
    simp only [Option.some.injEq] at h
    subst h
    simp [Builtin.len_, Sem.run_bind, Result.andThen, run_underlying hu, goInt]
  · rename_i e
    rw [e] at ht
    simp only [Option.some.injEq] at h
    subst h
    simp [Builtin.len_, Sem.run_bind, Result.andThen, run_underlying ht, goInt]
  · simp at h
theorem run_nilV {x v : Value} (h : nilV x = some v) : x = v ∧ ∃ a, x = .pointer (some a) := by
  unfold nilV at h
  split at h
  · simp only [Option.some.injEq] at h; subst h; exact ⟨rfl, _, rfl⟩
  · simp at h
theorem run_natV {x : Value} {j y : Nat} (h : natV x = some j) (hy : j ≤ y) (c : BoundsCode) (w : World) : (Instr.sliceBound x y c).run P w = .ok j w := by
  unfold natV at h
  split at h
  · simp only [Option.some.injEq] at h
    subst h
    simp [Instr.sliceBound, asIntOf, hy]
  · simp at h
theorem plus?_add {a b : Option Addr} {n : Nat} (h : plus? a n = some b) : a.map (·.add n) = b := by
  unfold plus? at h
  split at h
  · simpa using h
  · simp only [Option.map_eq_some_iff] at h
    obtain ⟨c, hc, rfl⟩ := h
    simp [plus_add hc]
theorem add_zero_map (a : Option Addr) : a.map (·.add 0) = a := by cases a <;> simp [Addr.add]
theorem run_sliceV {t : TypeId} {x v : Value} {lo hi : Option Value} (hτ : TyOK P τ) (h : sliceV (τ t) x lo hi = some v) (w : World) :
    (Instr.sliceAt t x lo hi none).run P w = .ok v w := by
  unfold sliceV at h
  split at h
  · rename_i sz a len cap e
    have ht := hτ t
    rw [e] at ht
    obtain ⟨el, hu, hs⟩ := ht
    split at h
    · rename_i l hh e1 e2
      split at h
      · rename_i hb
        have hlo : (match lo with | some v => Instr.sliceBound v hh .sliceB | none => pure 0).run P w = .ok l w := by
          cases lo with
          | none => simp at e1; subst e1; rfl
          | some v => exact run_natV e1 hb.1 _ w
        have hhi : (match hi with | some v => Instr.sliceBound v cap .sliceAcap | none => pure len).run P w = .ok hh w := by
          cases hi with
          | none => simp at e2; subst e2; rfl
          | some v => exact run_natV e2 hb.2 _ w
        have hbounds : (Instr.sliceBounds true len cap lo hi none).run P w = .ok (l, hh, cap) w := by
          cases lo <;> cases hi <;> simp_all [Instr.sliceBounds, Sem.run_bind, Result.andThen]
        have key : (Instr.sliceAt t (.slice a len cap) lo hi none).run P w = .ok (.slice (if cap = l then a else a.map (·.add (l * sz))) (hh - l) (cap - l)) w := by
          simp [Instr.sliceAt, Instr.slice, Sem.run_bind, Result.andThen, run_underlying hu, hbounds, run_sizeOf hs]
        rw [key]
        split at h
        · rename_i hl
          subst hl
          simp only [Option.some.injEq] at h
          subst h
          simp only [Nat.zero_mul, add_zero_map, ite_self, Nat.sub_zero]
        · split at h
          · rename_i hlt
            simp only [Option.map_eq_some_iff] at h
            obtain ⟨b, hb', rfl⟩ := h
            rw [if_neg (by omega), plus?_add hb']
          · simp at h
      · simp at h
    · simp at h
  · simp at h
theorem foldl_over (vs : List Value) : ∀ (off : Nat) (cs : Array Value), off + vs.length ≤ cs.size →
    (vs.zipIdx.foldl (fun cs (p : Value × Nat) => cs.setIfInBounds (off + p.2) p.1) cs).toList = over cs.toList off vs := by
  have gen : ∀ (vs : List Value) (k off : Nat) (cs : Array Value), off + k + vs.length ≤ cs.size →
      ((vs.zipIdx k).foldl (fun cs (p : Value × Nat) => cs.setIfInBounds (off + p.2) p.1) cs).toList = over cs.toList (off + k) vs := by
    intro vs
    induction vs with
    | nil => intro k off cs _; simp [over]
    | cons v r ih =>
      intro k off cs h
      simp only [List.length_cons] at h
      rw [List.zipIdx_cons, List.foldl_cons, ih (k + 1) off _ (by simp; omega)]
      simp only [over, Array.toList_setIfInBounds, List.length_cons]
      apply List.ext_getElem?
      intro n
      simp only [List.getElem?_append, List.getElem?_take, List.getElem?_drop, List.getElem?_set, List.length_append, List.length_take, List.length_set, List.length_cons, Array.length_toList]
      rcases Nat.lt_trichotomy n (off + k) with hn | hn | hn
      · have h1 : n < min (off + (k + 1)) cs.size := by omega
        have h2 : n < min (off + k) cs.size := by omega
        have h3 : n < off + (k + 1) := by omega
        have h4 : ¬ off + k = n := by omega
        simp [h1, h2, h3, h4, hn, show n < min (off + (k + 1)) cs.size + r.length from by omega, show n < min (off + k) cs.size + (r.length + 1) from by omega]
      · subst hn
        have h1 : off + k < min (off + (k + 1)) cs.size := by omega
        have h2 : ¬ off + k < min (off + k) cs.size := by omega
        have h5 : min (off + k) cs.size = off + k := by omega
        simp [h1, h5, show off + k < off + (k + 1) from by omega, show off + k < min (off + (k + 1)) cs.size + r.length from by omega, show off + k < cs.size from by omega]
      · by_cases hlt : n < off + k + (r.length + 1)
        · have h5 : min (off + k) cs.size = off + k := by omega
          have h6 : min (off + (k + 1)) cs.size = off + (k + 1) := by omega
          obtain ⟨m, rfl⟩ : ∃ m, n = off + k + (m + 1) := ⟨n - (off + k) - 1, by omega⟩
          simp only [h5, h6]
          rw [if_pos (by omega), if_neg (by omega), if_pos (by omega), if_neg (by omega)]
          rw [show off + k + (m + 1) - (off + (k + 1)) = m from by omega, show off + k + (m + 1) - (off + k) = m + 1 from by omega]
          simp
        · have h5 : min (off + k) cs.size = off + k := by omega
          have h6 : min (off + (k + 1)) cs.size = off + (k + 1) := by omega
          simp only [h5, h6]
          rw [if_neg (by omega), if_neg (by omega)]
          rw [show off + (k + 1) + r.length + (n - (off + (k + 1) + r.length)) = n from by omega, show off + k + (r.length + 1) + (n - (off + k + (r.length + 1))) = n from by omega]
          rw [if_neg (by omega)]
  intro off cs h
  simpa using gen vs 0 off cs (by simpa using h)
theorem fill_sound {place place' : Nat → Option (Nat × Nat)} (hp : ∀ i x, place i = some x → place' i = some x) (ps : List (Nat × Value)) :
    ∀ (cs : Array Value) (r : List Value), fillV place cs.toList ps = some r → Instr.fill place' cs ps = some r.toArray := by
  induction ps with
  | nil => intro cs r h; simp [fillV] at h; subst h; simp [Instr.fill]
  | cons p ps ih =>
    obtain ⟨i, v⟩ := p
    intro cs r h
    simp only [fillV] at h
    split at h
    · simp at h
    · rename_i off sz hi
      split at h
      · rename_i hb
        have hc : v.cells.size = sz := by simpa using hb.1
        have hl : off + sz ≤ cs.size := by simpa using hb.2
        have hfold := foldl_over v.cells.toList off cs (by simp; omega)
        have key := ih (v.cells.toList.zipIdx.foldl (fun cs (p : Value × Nat) => cs.setIfInBounds (off + p.2) p.1) cs) r (by rw [hfold]; exact h)
        simp only [Instr.fill, hp i _ hi]
        have hz : (v.cells.zipIdx.foldl (fun cs (p : Value × Nat) => cs.setIfInBounds (off + p.2) p.1) cs) = (v.cells.toList.zipIdx.foldl (fun cs (p : Value × Nat) => cs.setIfInBounds (off + p.2) p.1) cs) := by
          rw [← Array.foldl_toList, Array.toList_zipIdx]
        rw [if_neg (by simp [hc]; omega)]
        rw [← hz] at key
        exact key
      · simp at h
theorem map_mapM (fs : List Field) (w : World) {l : List (Nat × Nat × Bool)} (h : FieldsOK P fs l) :
    (fs.mapM (fun f => (do pure (f.offset, ← sizeOf f.type) : Sem (Nat × Nat)))).run P w = .ok (l.map fun x => (x.1, x.2.1)) w := by
  induction fs generalizing l with
  | nil => cases l with
    | nil => rfl
    | cons => simp [FieldsOK] at h
  | cons f r ih => cases l with
    | nil => simp [FieldsOK] at h
    | cons y s =>
      obtain ⟨o, z, g⟩ := y
      obtain ⟨h1, h2, h3, h4⟩ := h
      rw [List.mapM_cons, Sem.run_bind, Sem.run_bind, run_sizeOf h2]
      simp only [Result.andThen, run_pure]
      rw [Sem.run_bind, ih h4]
      simp [Result.andThen, h1]
theorem run_buildV {t : TypeId} {ps : List (Nat × Value)} {v : Value} (hτ : TyOK P τ) (h : buildV (τ t) ps = some v) (w : World) :
    (Instr.build t ps.toArray).run P w = .ok v w := by
  unfold buildV at h
  have ht := hτ t
  split at h
  · rename_i fs zero e
    rw [e] at ht
    obtain ⟨fields, hu, hfs, hz⟩ := ht
    obtain ⟨z, hz1, hz2⟩ := run_zero hz w
    simp only [Option.map_eq_some_iff] at h
    obtain ⟨cs, hcs, rfl⟩ := h
    have hm := map_mapM fields.toList w hfs
    have hf := fill_sound (place := fun i => (fs[i]?).map fun f => (f.1, f.2.1)) (place' := fun i => ((fs.map fun x => (x.1, x.2.1)).toArray)[i]?) (by
      intro i x hx
      simpa using hx) ps z.cells cs (by rw [hz2]; exact hcs)
    simp only [Instr.build, Sem.run_bind, hz1, Result.andThen, run_underlying hu, Array.mapM_eq_mapM_toList, Sem.run_map, hm]
    rw [hf]
    rfl
  · rename_i len sz zero e
    rw [e] at ht
    obtain ⟨el, hu, hs, hz⟩ := ht
    obtain ⟨z, hz1, hz2⟩ := run_zero hz w
    simp only [Option.map_eq_some_iff] at h
    obtain ⟨cs, hcs, rfl⟩ := h
    have hf := fill_sound (place := fun i => some (i * sz, sz)) (place' := fun i => some (i * sz, sz)) (by
      intro i x hx
      exact hx) ps z.cells cs (by rw [hz2]; exact hcs)
    simp only [Instr.build, Sem.run_bind, hz1, Result.andThen, run_underlying hu, run_sizeOf hs]
    rw [hf]
    rfl
  · simp at h
theorem pv_sound {op : Op} {ρ : Operand → Value} {v : Value} (hτ : TyOK P τ) (h : pv τ op ρ = some v) (dst : Option Tmp) (ty : TypeId) (pos : String) (after : Array Edge)
    (g : Option (Nat × Bool)) (w : World) : (execOp ρ { dst, op, type := ty, pos, after, guard := g }).run P w = .ok (.value v) w := by
  have lift : ∀ (s : Sem Value), s.run P w = .ok v w → (do pure (Next.value (← s)) : Sem Next).run P w = .ok (.value v) w := by
    intro s hs; rw [Sem.run_bind, hs]; rfl
  unfold pv at h
  split at h
  · simp only [Option.some.injEq] at h; subst h; rfl
  · simp only [Option.some.injEq] at h; subst h; rfl
  · rename_i c a b
    unfold pickV at h
    split at h
    · rename_i q hq
      simp only [Option.some.injEq] at h; subst h
      simp only [execOp, hq]
      cases q <;> rfl
    · simp at h
  · exact lift _ (run_binV hτ h w)
  · exact lift _ (run_unV h w)
  · split at h
    · rename_i src dst x _ k e
      have ht := hτ src
      rw [e] at ht
      exact lift _ (run_convV hτ ⟨_, ht⟩ h w)
    · simp at h
  · exact lift _ (run_extrV h w)
  · simp only [Option.some.injEq] at h; subst h
    refine lift _ ?_
    rename_i fn first cap
    have e1 : first.map ρ = (first.toList.map ρ).toArray := by apply Array.ext'; simp
    have e2 : cap.map ρ = (cap.toList.map ρ).toArray := by apply Array.ext'; simp
    rw [Instr.makeFunc, e1, e2]; rfl
  · exact lift _ (run_fieldAddrV hτ h w)
  · exact lift _ (run_fieldV hτ h w)
  · exact lift _ (run_indexAddrV hτ h w)
  · exact lift _ (run_sliceV hτ h w)
  · rename_i x
    obtain ⟨h1, a, h2⟩ := run_nilV h
    simp only [execOp, h2, ← h1]
    rfl
  · rename_i t ps
    refine lift _ ?_
    have := run_buildV hτ h w
    have e : (ps.map fun (x : Nat × Operand) => (x.1, ρ x.2)) = (ps.toList.map fun p => (p.1, ρ p.2)).toArray := by
      apply Array.ext'; simp
    rw [← e] at this
    exact this
  · rename_i x t
    have := run_lenV (ty := ty) hτ h w
    simp only [execOp, Sem.run_bind]
    simp [resolve, invoke, builtin, Result.andThen, this]
  · rename_i x y at'
    unfold maxV at h
    split at h
    · rename_i k a k' b hx hy
      simp only [Option.some.injEq] at h; subst h
      simp [execOp, resolve, invoke, builtin, Builtin.max_, Builtin.max2, hx, hy, List.foldlM]
    · simp at h
  · rename_i x y at'
    unfold minV at h
    split at h
    · rename_i k a k' b hx hy
      simp only [Option.some.injEq] at h; subst h
      simp [execOp, resolve, invoke, builtin, Builtin.min_, Builtin.min2, hx, hy, List.foldlM]
    · simp at h
  · simp at h
end
end Go.Vc
namespace Go.Vc
open Go
def recd (o : Obj) : Bool := match o with | .loop _ | .deferred _ => true | _ => false
structure NC (X : Option Nat) (w w' : World) : Prop where
  size : w.heap.size ≤ w'.heap.size
  obj : ∀ (k : Nat) (o : Obj), some k ≠ X → w.heap[k]? = some o → recd o = true → w'.heap[k]? = some o
structure Sys (n0 : Nat) (w w' : World) : Prop where
  os : w'.os = w.os
  tape : w'.tape = w.tape
  output : w'.output = w.output
  size : w.heap.size ≤ w'.heap.size
  block : ∀ (k : Nat) (o : Obj), w.heap[k]? = some o → (k < n0 ∨ recd o = false) → w'.heap[k]? = some o
structure Grow (w w' : World) : Prop where
  os : w'.os = w.os
  tape : w'.tape = w.tape
  output : w'.output = w.output
  size : w.heap.size ≤ w'.heap.size
  block : ∀ (k : Nat) (o : Obj), w.heap[k]? = some o → w'.heap[k]? = some o
theorem Grow.refl (w : World) : Grow w w := ⟨rfl, rfl, rfl, Nat.le_refl _, fun _ _ h => h⟩
theorem Grow.trans {a b c : World} (h : Grow a b) (h' : Grow b c) : Grow a c :=
  ⟨h'.os.trans h.os, h'.tape.trans h.tape, h'.output.trans h.output, Nat.le_trans h.size h'.size, fun k o hk => h'.block k o (h.block k o hk)⟩
theorem Grow.nc {X : Option Nat} {w w' : World} (h : Grow w w') : NC X w w' := ⟨h.size, fun k o _ hk _ => h.block k o hk⟩
theorem Grow.sys {n0 : Nat} {w w' : World} (h : Grow w w') : Sys n0 w w' := ⟨h.os, h.tape, h.output, h.size, fun k o hk _ => h.block k o hk⟩
theorem NC.refl (X : Option Nat) (w : World) : NC X w w := ⟨Nat.le_refl _, fun _ _ _ h _ => h⟩
theorem Sys.refl (n0 : Nat) (w : World) : Sys n0 w w := ⟨rfl, rfl, rfl, Nat.le_refl _, fun _ _ h _ => h⟩
theorem Sys.trans {n0 : Nat} {a b c : World} (h : Sys n0 a b) (h' : Sys n0 b c) : Sys n0 a c :=
  ⟨h'.os.trans h.os, h'.tape.trans h.tape, h'.output.trans h.output, Nat.le_trans h.size h'.size, fun k o hk hr => h'.block k o (h.block k o hk hr) hr⟩
theorem Grow.alloc (w : World) (o : Obj) : Grow w (w.alloc o) := by
  refine ⟨rfl, rfl, rfl, by simp, fun k x hk => ?_⟩
  have hlt : k < w.heap.size := (Array.getElem?_eq_some_iff.1 hk).1
  show (w.heap.push o)[k]? = _
  rw [Array.getElem?_push, if_neg (by omega)]; exact hk
theorem Sys.putRec {n0 l : Nat} {w : World} {o o' : Obj} (h : w.heap[l]? = some o) (hr : recd o = true) (hl : n0 ≤ l) : Sys n0 w (w.putObj l o') := by
  refine ⟨rfl, rfl, rfl, by simp, fun k x hk hx => ?_⟩
  by_cases e : k = l
  · subst e
    rw [h] at hk; cases hk
    rcases hx with hx | hx
    · omega
    · rw [hr] at hx; cases hx
  · rw [World.putObj_heap_other e]; exact hk
structure Ctx where
  P : Program
  τ : TypeId → Ty
  B : FuncId → Bool
  X : Option Nat := none
def HasBody (P : Program) (f : FuncId) : Prop := ∃ fn, P.funcs[f]? = some fn ∧ (fn.name == "runtime.NumGoroutine") = false ∧ fn.body.isSome = true
structure Ctx.OK (C : Ctx) : Prop where
  ty : TyOK C.P C.τ
  body : ∀ f, C.B f = true → HasBody C.P f
  mixed : C.P.follows .mixedOrders = true
def RunV (C : Ctx) (s : Sem Value) (w : World) (k : Value → World → Prop) : Prop := ∃ v w', s.run C.P w = .ok v w' ∧ NC C.X w w' ∧ k v w'
def blkOf : Value → Option Nat
  | .pointer (some a) => some a.block
  | .slice (some a) _ _ => some a.block
  | _ => none
def RunF (C : Ctx) (s : Sem Value) (w : World) (k : Value → World → Prop) : Prop := ∃ v w', s.run C.P w = .ok v w' ∧ NC C.X w w' ∧ (∃ g, blkOf v = some g ∧ w.heap.size ≤ g ∧ g < w'.heap.size) ∧ k v w'
def RunU (C : Ctx) (s : Sem Unit) (w : World) (k : World → Prop) : Prop := ∃ w', s.run C.P w = .ok () w' ∧ NC C.X w w' ∧ k w'
def LoadP (C : Ctx) (t : TypeId) (p : Value) (w : World) (k : Value → World → Prop) : Prop := ∃ v, (Instr.loadAt t p).run C.P w = .ok v w ∧ k v w
def StoreP (C : Ctx) (t : TypeId) (p v : Value) (w : World) (k : World → Prop) : Prop := RunU C (Instr.storeAt t p v) w k
def AllocP (C : Ctx) (t : TypeId) (w : World) (k : Value → World → Prop) : Prop := RunF C (Instr.alloc t true (.tuple #[])) w k
def BoxP (C : Ctx) (t : TypeId) (v : Value) (w : World) (k : Value → World → Prop) : Prop := RunF C (Instr.box t v) w k
def LitP (C : Ctx) (t : TypeId) (n : Nat) (ps : List (Nat × Value)) (w : World) (k : Value → World → Prop) : Prop := RunF C (Instr.buildSlice t n ps.toArray) w k
def MakeP (C : Ctx) (t : TypeId) (a b : Value) (w : World) (k : Value → World → Prop) : Prop := RunF C (Instr.makeSlice t a b) w k
def MakeMapP (C : Ctx) (t : TypeId) (r : Option Value) (w : World) (k : Value → World → Prop) : Prop := RunV C (Instr.makeMap t r) w k
def InsertP (C : Ctx) (t : TypeId) (m x v : Value) (w : World) (k : World → Prop) : Prop := RunU C (Instr.mapUpdate t m x v) w k
def LookupP (C : Ctx) (t : TypeId) (m x : Value) (ok : Bool) (w : World) (k : Value → World → Prop) : Prop := RunV C (Instr.lookup t m x ok) w k
def AppendP (C : Ctx) (ts : Array TypeId) (t : TypeId) (xs : List Value) (w : World) (k : Value → World → Prop) : Prop := RunV C (Builtin.append_ ts t xs.toArray) w k
def EqP (C : Ctx) (o : BinOp) (t : TypeId) (x y : Operand) (a b : Value) (w : World) (k : Value → World → Prop) : Prop := RunV C (do eqGuard o t x y a b; binOp o t a b) w k
def CallP (C : Ctx) (f : FuncId) (args : List Value) (w : World) (k : Value → World → Prop) : Prop :=
  Calls C.P f args.toArray w fun e w' => ∃ v, e = .returned v ∧ NC C.X w w' ∧ k v w'
def YieldP (C : Ctx) (y : Nat) (args : List Value) (w : World) (k : Value → World → Prop) : Prop :=
  ∃ f tmps assign body, (Instr.yield y args.toArray).run C.P w = .ok (.round y f tmps assign body) w ∧
    RoundIn (FF none) 0 C.P y f tmps assign body w fun e w' => ∃ v, e = .returned v ∧ NC C.X w w' ∧ k v w'
def callV (C : Ctx) (fv : Value) (args : List Value) (w : World) (k : Value → World → Prop) : Prop :=
  match fv with
  | .func (.func f) first cap => C.B f = true ∧ CallP C f (first.toList ++ args ++ cap.toList) w k
  | .func (.yield y) first _ => YieldP C y (first.toList ++ args) w k
  | _ => False
def callF (C : Ctx) (x : Operand) (ρ : Operand → Value) (args : List Value) (w : World) (k : Value → World → Prop) : Prop :=
  match x with
  | .func f => if C.B f then CallP C f args w k else False
  | x => callV C (ρ x) args w k
def effP (C : Ctx) (op : Op) (ty : TypeId) (ρ : Operand → Value) (w : World) (k : Value → World → Prop) : Prop :=
  match op with
  | .load t x => LoadP C t (ρ x) w k
  | .store t a x => StoreP C t (ρ a) (ρ x) w (k undef)
  | .alloc t => AllocP C t w k
  | .box t x => BoxP C t (ρ x) w k
  | .buildSlice t n ps => LitP C t n (ps.toList.map fun p => (p.1, ρ p.2)) w k
  | .makeSlice t a b => MakeP C t (ρ a) (ρ b) w k
  | .makeMap t r => MakeMapP C t (r.map ρ) w k
  | .insert t m x v => InsertP C t (ρ m) (ρ x) (ρ v) w (k undef)
  | .mapUpdate t m x v => InsertP C t (ρ m) (ρ x) (ρ v) w (k undef)
  | .lookup t m x ok => LookupP C t (ρ m) (ρ x) ok w k
  | .binOp o t x y _ => EqP C o t x y (ρ x) (ρ y) w k
  | .call c => match c.callee with
    | .value f => callF C f ρ (c.args.toList.map ρ) w k
    | .builtin .append => AppendP C c.argTypes ty (c.args.toList.map ρ) w k
    | _ => False
  | _ => False
section
variable {C : Ctx} {l : Option Nat} {Q : Exit → Act → World → Prop}
theorem NC.trans {X : Option Nat} {a b c : World} (h : NC X a b) (h' : NC X b c) : NC X a c := ⟨Nat.le_trans h.size h'.size, fun k o hX hk hr => h'.obj k o hX (h.obj k o hX hk hr) hr⟩
def next (C : Ctx) (o : Oper) (a : Act) (w : World) (k : Value → World → Prop) (a' : Act) (w' : World) : Prop := ∃ v, a' = a.put o.dst v ∧ NC C.X w w' ∧ k v w'
theorem semAt_eq {o : Oper} {ρ : Operand → Value} (h : ∀ c, o.op ≠ .defer c) : o.semAt l ρ = execOp ρ o := Oper.semAt_eq l ρ o h
theorem wpIn_of_value {o : Oper} {a : Act} {w w' : World} {v : Value} {k : Value → World → Prop} (hd : ∀ c, o.op ≠ .defer c)
    (h : (execOp a.eval o).run C.P w = .ok (.value v) w') (hn : NC C.X w w') (hk : k v w') : o.wpIn (FF l) 0 C.P a w (next C o a w k) Q := by
  refine ⟨fun _ _ => trivial, ?_⟩
  rw [semAt_eq hd, h, Oper.uponIn_value]
  exact ⟨v, rfl, hn, hk⟩
theorem wpIn_of_skip {o : Oper} {a : Act} {w w' : World} {k : Value → World → Prop} (hd : ∀ c, o.op ≠ .defer c)
    (h : (execOp a.eval o).run C.P w = .ok .skip w') (hn : NC C.X w w') (hk : k undef w') : o.wpIn (FF l) 0 C.P a w (next C o a w k) Q := by
  refine ⟨fun _ _ => trivial, ?_⟩
  rw [semAt_eq hd, h, Oper.uponIn_skip]
  exact ⟨undef, rfl, hn, hk⟩
theorem lift_value {P : Program} {s : Sem Value} {v : Value} {w w' : World} (h : s.run P w = .ok v w') : (do pure (Next.value (← s)) : Sem Next).run P w = .ok (.value v) w' := by
  rw [Sem.run_bind, h]; rfl
theorem lift_unit {P : Program} {s : Sem Unit} {w w' : World} (h : s.run P w = .ok () w') : (do s; pure Next.skip : Sem Next).run P w = .ok .skip w' := by
  rw [Sem.run_bind, h]; rfl
theorem callsIn_FF {P : Program} {f : FuncId} {args : Array Value} {w : World} {R : Ending → World → Prop} (h : Calls P f args w R) : CallsIn (FF l) (0 - 1) P f args w R := by
  have h' : CallsIn Fence.wide 0 P f args w R := callsIn_wide.2 h
  cases l with
  | none => exact h'
  | some l => exact CallsIn.inRound l h'
theorem run_callFunc {P : Program} {f : FuncId} (h : HasBody P f) (args : Array Value) (w : World) : (callFunc f args).run P w = .ok (.enter f args) w := by
  obtain ⟨fn, h1, h2, h3⟩ := h
  have h4 : fn.body.isNone = false := by cases hb : fn.body <;> simp_all
  unfold callFunc
  simp only [Sem.run_bind, program, Sem.run, Result.andThen, h1, h2, h4]
  rfl
theorem wpIn_of_call {o : Oper} {a : Act} {w : World} {f : FuncId} {args : List Value} {k : Value → World → Prop} (hd : ∀ c, o.op ≠ .defer c)
    (h : (execOp a.eval o).run C.P w = .ok (.enter f args.toArray) w) (hk : CallP C f args w k) : o.wpIn (FF l) 0 C.P a w (next C o a w k) Q := by
  refine ⟨fun _ _ => trivial, ?_⟩
  rw [semAt_eq hd, h, Oper.uponIn_enter]
  refine ⟨fun h => by simp [FF] at h, callsIn_FF (hk.mono ?_)⟩
  rintro e w' ⟨v, rfl, hn, hk⟩
  exact ⟨v, rfl, hn, hk⟩
theorem wpIn_of_round {o : Oper} {a : Act} {w : World} {y : Nat} {f : FuncId} {tmps : Array Value} {assign body : Code} {k : Value → World → Prop} (hd : ∀ c, o.op ≠ .defer c)
    (h : (execOp a.eval o).run C.P w = .ok (.round y f tmps assign body) w)
    (hk : RoundIn (FF none) 0 C.P y f tmps assign body w fun e w' => ∃ v, e = .returned v ∧ NC C.X w w' ∧ k v w') : o.wpIn (FF l) 0 C.P a w (next C o a w k) Q := by
  refine ⟨fun _ _ => trivial, ?_⟩
  rw [semAt_eq hd, h, Oper.uponIn_round]
  have hk' : RoundIn (FF l) 0 C.P y f tmps assign body w fun e w' => ∃ v, e = .returned v ∧ NC C.X w w' ∧ k v w' := hk
  refine ⟨fun h => by simp [FF] at h, hk'.mono ?_⟩
  rintro e w' ⟨v, rfl, hn, hk⟩
  exact ⟨v, rfl, hn, hk⟩
theorem map_toArray (xs : Array Operand) (ρ : Operand → Value) : xs.map ρ = (xs.toList.map ρ).toArray := by apply Array.ext'; simp
theorem exec_callV {c : Call} {f : Operand} (hc : c.callee = .value f) {ρ : Operand → Value} {dst : Option Tmp} {ty : TypeId} {pos : String} {after : Array Edge} {g : Option (Nat × Bool)} {fn : Fn} {first cap : Array Value}
    (hf : ρ f = .func fn first cap) {P : Program} (w : World) :
    (execOp ρ { dst, op := .call c, type := ty, pos, after, guard := g }).run P w = (invoke (.fn fn cap) (first ++ c.args.map ρ)).run P w := by
  simp [execOp, resolve, hc, hf, Deferred.ofValue, Sem.run_bind, Result.andThen]
theorem CallP_mono {f : FuncId} {args : List Value} {w : World} {k k' : Value → World → Prop} (h : CallP C f args w k) (hk : ∀ v w', k v w' → k' v w') : CallP C f args w k' := by
  refine Calls.mono h ?_
  rintro e w' ⟨v, rfl, hn, hkv⟩
  exact ⟨v, rfl, hn, hk v w' hkv⟩
theorem callV_mono {fv : Value} {args : List Value} {w : World} {k k' : Value → World → Prop} (h : callV C fv args w k) (hk : ∀ v w', k v w' → k' v w') : callV C fv args w k' := by
  unfold callV at h ⊢
  split at h
  · exact ⟨h.1, CallP_mono h.2 hk⟩
  · obtain ⟨f, tmps, assign, body, h1, h2⟩ := h
    refine ⟨f, tmps, assign, body, h1, h2.mono ?_⟩
    rintro e w' ⟨v, rfl, hn, hkv⟩
    exact ⟨v, rfl, hn, hk v w' hkv⟩
  · exact h.elim
theorem effP_mono {op : Op} {ty : TypeId} {ρ : Operand → Value} {w : World} {k k' : Value → World → Prop} (h : effP C op ty ρ w k) (hk : ∀ v w', k v w' → k' v w') : effP C op ty ρ w k' := by
  unfold effP at h ⊢
  split at h
  · obtain ⟨v, h1, h2⟩ := h; exact ⟨v, h1, hk _ _ h2⟩
  · obtain ⟨w', h1, h2, h3⟩ := h; exact ⟨w', h1, h2, hk _ _ h3⟩
  · obtain ⟨v, w', h1, h2, h3, h4⟩ := h; exact ⟨v, w', h1, h2, h3, hk _ _ h4⟩
  · obtain ⟨v, w', h1, h2, h3, h4⟩ := h; exact ⟨v, w', h1, h2, h3, hk _ _ h4⟩
  · obtain ⟨v, w', h1, h2, h3, h4⟩ := h; exact ⟨v, w', h1, h2, h3, hk _ _ h4⟩
  · obtain ⟨v, w', h1, h2, h3, h4⟩ := h; exact ⟨v, w', h1, h2, h3, hk _ _ h4⟩
  · obtain ⟨v, w', h1, h2, h3⟩ := h; exact ⟨v, w', h1, h2, hk _ _ h3⟩
  · obtain ⟨w', h1, h2, h3⟩ := h; exact ⟨w', h1, h2, hk _ _ h3⟩
  · obtain ⟨w', h1, h2, h3⟩ := h; exact ⟨w', h1, h2, hk _ _ h3⟩
  · obtain ⟨v, w', h1, h2, h3⟩ := h; exact ⟨v, w', h1, h2, hk _ _ h3⟩
  · obtain ⟨v, w', h1, h2, h3⟩ := h; exact ⟨v, w', h1, h2, hk _ _ h3⟩
  · split at h
    · unfold callF at h ⊢
      split at h
      · split at h
        · rename_i hb; simp only [hb, if_true]; exact CallP_mono h hk
        · exact h.elim
      · exact callV_mono h hk
    · obtain ⟨v, w', h1, h2, h3⟩ := h; exact ⟨v, w', h1, h2, hk _ _ h3⟩
    · exact h.elim
  · exact h.elim
def newOp (op : Op) : Bool := match op with | .alloc _ | .box .. | .makeSlice .. | .buildSlice .. => true | _ => false
theorem effP_new {op : Op} {ty : TypeId} {ρ : Operand → Value} {w : World} {k : Value → World → Prop} (h : effP C op ty ρ w k) (hn : newOp op = true) :
    effP C op ty ρ w fun v w' => k v w' ∧ ∃ g, blkOf v = some g ∧ w.heap.size ≤ g ∧ g < w'.heap.size := by
  cases op <;> simp [newOp] at hn
  all_goals
    obtain ⟨v, w', h1, h2, h3, h4⟩ := h
    exact ⟨v, w', h1, h2, h3, h4, h3⟩
theorem effP_sound (hC : C.OK) {o : Oper} {a : Act} {w : World} {k : Value → World → Prop} (h : effP C o.op o.type a.eval w k) :
    o.wpIn (FF l) 0 C.P a w (next C o a w k) Q := by
  obtain ⟨dst, op, ty, pos, after, g⟩ := o
  simp only at h
  unfold effP at h
  split at h
  · obtain ⟨v, hv, hk⟩ := h
    exact wpIn_of_value (by simp) (lift_value hv) (NC.refl _ _) hk
  · obtain ⟨w', hv, hn, hk⟩ := h
    exact wpIn_of_skip (by simp) (lift_unit hv) hn hk
  · obtain ⟨v, w', hv, hn, -, hk⟩ := h
    exact wpIn_of_value (by simp) (lift_value hv) hn hk
  · obtain ⟨v, w', hv, hn, -, hk⟩ := h
    exact wpIn_of_value (by simp) (lift_value hv) hn hk
  · obtain ⟨v, w', hv, hn, -, hk⟩ := h
    refine wpIn_of_value (by simp) (lift_value ?_) hn hk
    rename_i t n ps
    have e : (ps.map fun (x : Nat × Operand) => (x.1, a.eval x.2)) = (ps.toList.map fun p => (p.1, a.eval p.2)).toArray := by
      apply Array.ext'; simp
    rw [← hv, ← e]
  · obtain ⟨v, w', hv, hn, -, hk⟩ := h
    exact wpIn_of_value (by simp) (lift_value hv) hn hk
  · obtain ⟨v, w', hv, hn, hk⟩ := h
    exact wpIn_of_value (by simp) (lift_value hv) hn hk
  · obtain ⟨w', hv, hn, hk⟩ := h
    exact wpIn_of_skip (by simp) (lift_unit hv) hn hk
  · obtain ⟨w', hv, hn, hk⟩ := h
    exact wpIn_of_skip (by simp) (lift_unit hv) hn hk
  · obtain ⟨v, w', hv, hn, hk⟩ := h
    exact wpIn_of_value (by simp) (lift_value hv) hn hk
  · obtain ⟨v, w', hv, hn, hk⟩ := h
    exact wpIn_of_value (by simp) (lift_value hv) hn hk
  · rename_i c
    split at h
    · rename_i f hc
      unfold callF at h
      split at h
      · rename_i f
        split at h
        · rename_i hb
          refine wpIn_of_call (by simp) ?_ h
          rw [exec_callV hc (fn := .func f) (first := #[]) (cap := #[]) rfl]
          simp only [invoke, run_callFunc (hC.body f hb)]
          simp [map_toArray]
        · exact h.elim
      · unfold callV at h
        split at h
        · rename_i fv f first cap hf
          refine wpIn_of_call (by simp) ?_ h.2
          rw [exec_callV hc hf]
          simp only [invoke, run_callFunc (hC.body f h.1)]
          congr 2
          apply Array.ext'
          simp
        · rename_i fv y first cap hf
          obtain ⟨f', tmps, assign, body, hy, hr⟩ := h
          refine wpIn_of_round (by simp) ?_ hr
          rw [exec_callV hc hf]
          simp only [invoke]
          rw [← hy]
          congr 2
          apply Array.ext'
          simp
        · exact h.elim
    · rename_i hc
      obtain ⟨v, w', hv, hn, hk⟩ := h
      refine wpIn_of_value (by simp) ?_ hn hk
      have hv' := lift_value hv
      rw [← hv']
      simp [execOp, resolve, hc, invoke, builtin, Sem.run_bind, Result.andThen, map_toArray]
    · exact h.elim
  · exact h.elim
theorem pure_sound (hC : C.OK) {o : Oper} {a : Act} {w : World} {v : Value} {k : Value → World → Prop} (h : pv C.τ o.op a.eval = some v) (hd : ∀ c, o.op ≠ .defer c) (hk : k v w) :
    o.wpIn (FF l) 0 C.P a w (next C o a w k) Q := by
  obtain ⟨dst, op, ty, pos, after, g⟩ := o
  exact wpIn_of_value hd (pv_sound hC.ty h _ _ _ _ _ w) (NC.refl _ _) hk
end
end Go.Vc
namespace Go.Vc
open Go
def ev (t : Fr) : Operand → Value
  | .tmp i => t.getD i undef
  | .const v => v
  | .global g => .pointer (some ⟨g, 0, none⟩)
  | .func f => .func (.func f) #[] #[]
def put (t : Fr) (d : Option Tmp) (v : Value) : Fr :=
  match d with
  | some d => t.set d v
  | none => t
def opP (C : Ctx) (o : Oper) (ρ : Operand → Value) (w : World) (k : Value → World → Prop) : Prop :=
  match moveOp o.op with
  | true => ∃ v, pv C.τ o.op ρ = some v ∧ k v w
  | false => match pureOp C.τ o.op with
    | true => ∃ v, pv C.τ o.op ρ = some v ∧ k v w
    | false => effP C o.op o.type ρ w k
def vcSeq (C : Ctx) : List Oper → (Fr → World → Prop) → Fr → World → Prop
  | [], k, t, w => k t w
  | o :: r, k, t, w =>
    match o.op with
    | .move x => vcSeq C r k (put t o.dst (ev t x)) w
    | .assign x => vcSeq C r k (put t o.dst (ev t x)) w
    | _ => opP C o (ev t) w fun v w' => vcSeq C r k (put t o.dst v) w'
theorem eval_ev (t : Fr) (ds : List Deferred) : (⟨t.toArray, ds⟩ : Act).eval = ev t := by
  funext x
  cases x <;> simp [Act.eval, ev, Array.getD_eq_getD_getElem?]
theorem put_put (t : Fr) (ds : List Deferred) (d : Option Tmp) (v : Value) : (⟨t.toArray, ds⟩ : Act).put d v = ⟨(put t d v).toArray, ds⟩ := by
  cases d <;> simp [Act.put, put]
theorem eval_tmps (a : Act) : a.eval = ev a.tmps.toList := by
  have := eval_ev a.tmps.toList a.defers
  simpa using this
def noDefer (op : Op) : Bool := match op with | .defer _ => false | _ => true
theorem pv_noDefer {τ : TypeId → Ty} {op : Op} {ρ : Operand → Value} {v : Value} (h : pv τ op ρ = some v) : ∀ c, op ≠ .defer c := by
  intro c e; subst e; simp [pv] at h
section
variable {C : Ctx} {l : Option Nat} {Q : Exit → Act → World → Prop}
theorem opP_sound (hC : C.OK) {o : Oper} {a : Act} {w : World} {k : Value → World → Prop} (h : opP C o a.eval w k) :
    o.wpIn (FF l) 0 C.P a w (next C o a w k) Q := by
  unfold opP at h
  split at h
  · obtain ⟨v, hv, hk⟩ := h
    exact pure_sound hC hv (pv_noDefer hv) hk
  · split at h
    · obtain ⟨v, hv, hk⟩ := h
      exact pure_sound hC hv (pv_noDefer hv) hk
    · exact effP_sound hC h
theorem vcSeq_sound (hC : C.OK) {ops : Array Oper} (os : List Oper) : ∀ (k : Fr → World → Prop) (t : Fr) (w : World) (ds : List Deferred) (w0 : World), vcSeq C os k t w → NC C.X w0 w → (os.all fun o => o.guard.isNone) = true →
    (∀ t' w', t'.length = t.length → (∀ i, i ∉ os.filterMap (·.dst) → t'[i]? = t[i]?) → NC C.X w0 w' → k t' w' → Q .normal ⟨t'.toArray, ds⟩ w') →
    wpListIn (FF l) 0 C.P ops Q os ⟨t.toArray, ds⟩ w := by
  induction os with
  | nil => intro k t w ds w0 h hn _ hQ; exact hQ t w rfl (fun _ _ => rfl) hn h
  | cons o r ih =>
    intro k t w ds w0 h hn hg hQ
    simp only [List.all_cons, Bool.and_eq_true] at hg
    have hg0 : o.guard = none := by simpa using hg.1
    have h' : opP C o (ev t) w fun v w' => vcSeq C r k (put t o.dst v) w' := by
      unfold vcSeq at h
      split at h
      · rename_i x hx
        unfold opP; rw [hx]; exact ⟨_, rfl, h⟩
      · rename_i x hx
        unfold opP; rw [hx]; exact ⟨_, rfl, h⟩
      · exact h
    refine wpListIn_plain hg0 fun K hK => ?_
    have hs := opP_sound (l := l) (Q := Q) hC (a := ⟨t.toArray, ds⟩) (by rw [eval_ev]; exact h')
    refine Oper.wpIn_mono ?_ hs
    rintro a' w' ⟨v, rfl, hn', hk⟩
    rw [put_put]
    refine hK _ _ (ih k _ w' ds w0 hk (hn.trans hn') hg.2 ?_)
    intro t' w'' hl hs hn'' hk'
    refine hQ t' w'' ?_ ?_ hn'' hk'
    · rw [hl]; cases o.dst <;> simp [put]
    · intro i hi
      have h1 : i ∉ r.filterMap (·.dst) := by
        intro hm; exact hi (by rw [List.filterMap_cons]; split <;> simp_all)
      rw [hs i h1]
      cases hd : o.dst with
      | none => rfl
      | some d =>
        have : d ≠ i := by
          intro e; subst e; exact hi (by rw [List.filterMap_cons, hd]; simp)
        simp [put, List.getElem?_set_ne this]
end
def CondP (v : Value) (a b : Prop) : Prop := ∃ c, v = .bool c ∧ (c = true → a) ∧ (c = false → b)
def slotG (all : List Oper) (t : Fr) (j : Nat) : Value := match (all[j]?).bind (·.dst) with | some d => t.getD d undef | none => undef
def wantG (kn : List (Nat × Bool)) : Option (Nat × Bool) → Option Bool
  | none => some true
  | some (j, b) => match kn.lookup j with
    | some c => some (c == b)
    | none => none
def keepG (all : List Oper) (o : Oper) (kn : List (Nat × Bool)) : List (Nat × Bool) := kn.filter fun g => match (all[g.1]?).bind (·.dst), o.dst with | some d, some e => !(d == e) | _, none => true | none, _ => false
def runG (C : Ctx) (o : Oper) (k : Fr → World → Prop) (t : Fr) (w : World) : Prop :=
  match o.op with
  | .move x => k (put t o.dst (ev t x)) w
  | .assign x => k (put t o.dst (ev t x)) w
  | _ => opP C o (ev t) w fun v w' => k (put t o.dst v) w'
def vcSeqG (C : Ctx) (all : List Oper) : List Oper → List (Nat × Bool) → (Fr → World → Prop) → Fr → World → Prop
  | [], _, k, t, w => k t w
  | o :: r, kn, k, t, w =>
    match wantG kn o.guard with
    | some true => runG C o (vcSeqG C all r (keepG all o kn) k) t w
    | some false => vcSeqG C all r (keepG all o kn) k (put t o.dst undef) w
    | none => match o.guard with
      | none => False
      | some (j, true) => CondP (slotG all t j) (runG C o (vcSeqG C all r (keepG all o ((j, true) :: kn)) k) t w) (vcSeqG C all r (keepG all o ((j, false) :: kn)) k (put t o.dst undef) w)
      | some (j, false) => CondP (slotG all t j) (vcSeqG C all r (keepG all o ((j, true) :: kn)) k (put t o.dst undef) w) (runG C o (vcSeqG C all r (keepG all o ((j, false) :: kn)) k) t w)
def seqMark (l : List Nat) : Bool := match l with | [x] => x == 1000000 | _ => false
def KnOK (all : List Oper) (t : Fr) (kn : List (Nat × Bool)) : Prop := ∀ j c, (j, c) ∈ kn → slotG all t j = .bool c
theorem slotG_yielded {all : List Oper} {t : Fr} {j : Nat} {c : Bool} (h : slotG all t j = .bool c) : yielded all.toArray t.toArray j = some c := by
  unfold slotG at h
  unfold yielded
  cases hd : (all[j]?).bind (·.dst) with
  | none => rw [hd] at h; simp [undef] at h
  | some d =>
    rw [hd] at h
    simp only at h
    have hd' : (all.toArray[j]?).bind (·.dst) = some d := by simpa using hd
    rw [hd']
    have : t[d]? = some (.bool c) := by
      rw [List.getD_eq_getElem?_getD] at h
      cases ht : t[d]? with
      | none => rw [ht] at h; simp [undef] at h
      | some v => rw [ht] at h; simp at h; rw [h]
    simp [this]
theorem KnOK.keep {all : List Oper} {t : Fr} {kn : List (Nat × Bool)} (h : KnOK all t kn) (o : Oper) (v : Value) : KnOK all (put t o.dst v) (keepG all o kn) := by
  intro j c hm
  unfold keepG at hm
  obtain ⟨h1, h2⟩ := List.mem_filter.1 hm
  have h3 := h j c h1
  unfold slotG at h3 ⊢
  cases hd : (all[j]?).bind (·.dst) with
  | none => rw [hd] at h3; simp [undef] at h3
  | some d =>
    rw [hd] at h3
    simp only [hd] at h2 h3 ⊢
    cases ho : o.dst with
    | none => exact h3
    | some e =>
      rw [ho] at h2
      have hne : d ≠ e := by simpa using h2
      rw [← h3]
      simp only [put, List.getD_eq_getElem?_getD]
      rw [List.getElem?_set_ne (Ne.symm hne)]
theorem wantG_spec {all : List Oper} {t : Fr} {kn : List (Nat × Bool)} {o : Oper} {b : Bool} (h : KnOK all t kn) (hw : wantG kn o.guard = some b) : Region.wanted o (yielded all.toArray t.toArray) = b := by
  unfold wantG at hw
  unfold Region.wanted
  cases hg : o.guard with
  | none => rw [hg] at hw; simpa using hw
  | some g =>
    obtain ⟨j, b'⟩ := g
    rw [hg] at hw
    simp only at hw ⊢
    cases hl : kn.lookup j with
    | none => rw [hl] at hw; cases hw
    | some c =>
      rw [hl] at hw
      have hm : (j, c) ∈ kn := by
        clear hw
        induction kn with
        | nil => simp at hl
        | cons x r ih =>
          obtain ⟨a, d⟩ := x
          simp only [List.lookup] at hl
          split at hl
          · rename_i e; simp only [Option.some.injEq] at hl; subst hl; have : j = a := by simpa using e
            subst this; simp
          · exact List.mem_cons_of_mem _ (ih (fun j c hjc => h j c (List.mem_cons_of_mem _ hjc)) hl)
      rw [slotG_yielded (h j c hm)]
      simp only [Option.some.injEq] at hw
      rw [← hw]
      cases c <;> cases b' <;> rfl
section
variable {C : Ctx} {l : Option Nat} {Q : Exit → Act → World → Prop}
theorem vcSeqG_sound (hC : C.OK) {all : List Oper} (os : List Oper) : ∀ (kn : List (Nat × Bool)) (k : Fr → World → Prop) (t : Fr) (w : World) (ds : List Deferred) (w0 : World), vcSeqG C all os kn k t w → NC C.X w0 w → KnOK all t kn →
    (∀ t' w', t'.length = t.length → (∀ i, i ∉ os.filterMap (·.dst) → t'[i]? = t[i]?) → NC C.X w0 w' → k t' w' → Q .normal ⟨t'.toArray, ds⟩ w') →
    wpListIn (FF l) 0 C.P all.toArray Q os ⟨t.toArray, ds⟩ w := by
  induction os with
  | nil => intro kn k t w ds w0 h hn _ hQ; exact hQ t w rfl (fun _ _ => rfl) hn h
  | cons o r ih =>
    intro kn k t w ds w0 h hn hkn hQ
    -- what follows, in a frame whose slot dst has been put
    have follow : ∀ (kn' : List (Nat × Bool)) (v : Value) (w' : World), KnOK all t kn' → NC C.X w w' → vcSeqG C all r (keepG all o kn') k (put t o.dst v) w' → wpListIn (FF l) 0 C.P all.toArray Q r ⟨(put t o.dst v).toArray, ds⟩ w' := by
      intro kn' v w' hkn' hn' hk
      refine ih (keepG all o kn') k _ w' ds w0 hk (hn.trans hn') (hkn'.keep o v) ?_
      intro t' w'' hl hs hn'' hk'
      refine hQ t' w'' ?_ ?_ hn'' hk'
      · rw [hl]; cases o.dst <;> simp [put]
      · intro i hi
        have h1 : i ∉ r.filterMap (·.dst) := by
          intro hm; exact hi (by rw [List.filterMap_cons]; split <;> simp_all)
        rw [hs i h1]
        cases hd : o.dst with
        | none => rfl
        | some d =>
          have : d ≠ i := by
            intro e; subst e; exact hi (by rw [List.filterMap_cons, hd]; simp)
          simp [put, List.getElem?_set_ne this]
    have run : ∀ kn' : List (Nat × Bool), KnOK all t kn' → runG C o (vcSeqG C all r (keepG all o kn') k) t w → Region.wanted o (yielded all.toArray t.toArray) = true → wpListIn (FF l) 0 C.P all.toArray Q (o :: r) ⟨t.toArray, ds⟩ w := by
      intro kn' hkn' h hw
      have h' : opP C o (ev t) w fun v w' => vcSeqG C all r (keepG all o kn') k (put t o.dst v) w' := by
        unfold runG at h
        split at h
        · rename_i x hx
          unfold opP; rw [hx]; exact ⟨_, rfl, h⟩
        · rename_i x hx
          unfold opP; rw [hx]; exact ⟨_, rfl, h⟩
        · exact h
      refine wpListIn_step fun K hK => ?_
      rw [if_pos hw]
      have hs := opP_sound (l := l) (Q := Q) hC (a := ⟨t.toArray, ds⟩) (by rw [eval_ev]; exact h')
      refine Oper.wpIn_mono ?_ hs
      rintro a' w' ⟨v, rfl, hn', hk⟩
      rw [put_put]
      exact hK _ _ (follow kn' v w' hkn' hn' hk)
    have skip : ∀ kn' : List (Nat × Bool), KnOK all t kn' → vcSeqG C all r (keepG all o kn') k (put t o.dst undef) w → Region.wanted o (yielded all.toArray t.toArray) = false → wpListIn (FF l) 0 C.P all.toArray Q (o :: r) ⟨t.toArray, ds⟩ w := by
      intro kn' hkn' h hw
      refine wpListIn_step fun K hK => ?_
      rw [if_neg (by rw [hw]; simp)]
      refine ⟨fun _ _ => trivial, ?_⟩
      rw [put_put]
      exact hK _ _ (follow kn' undef w hkn' (NC.refl _ _) h)
    unfold vcSeqG at h
    split at h
    · rename_i hw; exact run kn hkn h (wantG_spec hkn hw)
    · rename_i hw; exact skip kn hkn h (wantG_spec hkn hw)
    · split at h
      · exact h.elim
      · rename_i j hg
        obtain ⟨c, hc, h1, h2⟩ := h
        have hy := slotG_yielded hc
        have hkn1 : KnOK all t ((j, c) :: kn) := by
          intro a d hm
          rcases List.mem_cons.1 hm with e | e
          · cases e; exact hc
          · exact hkn a d e
        have hw : Region.wanted o (yielded all.toArray t.toArray) = c := by
          unfold Region.wanted; rw [hg]; simp only [hy]; cases c <;> rfl
        cases c with
        | true => exact run _ hkn1 (h1 rfl) hw
        | false => exact skip _ hkn1 (h2 rfl) hw
      · rename_i j hg
        obtain ⟨c, hc, h1, h2⟩ := h
        have hy := slotG_yielded hc
        have hkn1 : KnOK all t ((j, c) :: kn) := by
          intro a d hm
          rcases List.mem_cons.1 hm with e | e
          · cases e; exact hc
          · exact hkn a d e
        have hw : Region.wanted o (yielded all.toArray t.toArray) = !c := by
          unfold Region.wanted; rw [hg]; simp only [hy]; cases c <;> rfl
        cases c with
        | true => exact skip _ hkn1 (h1 rfl) hw
        | false => exact run _ hkn1 (h2 rfl) hw
end
def knowO (kn : List (Nat × Bool)) : Operand → Option Bool
  | .const (.bool b) => some b
  | .tmp s => kn.lookup s
  | _ => none
def learn (kn : List (Nat × Bool)) (op : Op) : Option Bool :=
  match op with
  | .move x => knowO kn x
  | .assign x => knowO kn x
  | .pick c a b => match knowO kn c with
    | some true => knowO kn a
    | some false => knowO kn b
    | none => none
  | _ => none
def dropH (o : Oper) (kn : List (Nat × Bool)) : List (Nat × Bool) := match o.dst with | none => kn | some d => kn.filter fun g => !(g.1 == d)
def addH (o : Oper) (b : Bool) (kn : List (Nat × Bool)) : List (Nat × Bool) := match o.dst with | none => kn | some d => (d, b) :: kn
def gslot (all : List Oper) (j : Nat) : Option Nat := (all[j]?).bind (·.dst)
def wantH (all : List Oper) (kn : List (Nat × Bool)) : Option (Nat × Bool) → Option Bool
  | none => some true
  | some (j, b) => match gslot all j with
    | none => none
    | some d => match kn.lookup d with
      | some c => some (c == b)
      | none => none
def withG (all : List Oper) (j : Nat) (c : Bool) (kn : List (Nat × Bool)) : List (Nat × Bool) := match gslot all j with | none => kn | some d => (d, c) :: kn
def runH (C : Ctx) (o : Oper) (kn : List (Nat × Bool)) (k : List (Nat × Bool) → Fr → World → Prop) (t : Fr) (w : World) : Prop :=
  match learn kn o.op with
  | some b => k (addH o b (dropH o kn)) (put t o.dst (.bool b)) w
  | none => runG C o (k (dropH o kn)) t w
def vcSeqH (C : Ctx) (all : List Oper) : List Oper → List (Nat × Bool) → (Fr → World → Prop) → Fr → World → Prop
  | [], _, k, t, w => k t w
  | o :: r, kn, k, t, w =>
    match wantH all kn o.guard with
    | some true => runH C o kn (fun kn' t' w' => vcSeqH C all r kn' k t' w') t w
    | some false => vcSeqH C all r (dropH o kn) k (put t o.dst undef) w
    | none => match o.guard with
      | none => False
      | some (j, true) => CondP (slotG all t j) (runH C o (withG all j true kn) (fun kn' t' w' => vcSeqH C all r kn' k t' w') t w) (vcSeqH C all r (dropH o (withG all j false kn)) k (put t o.dst undef) w)
      | some (j, false) => CondP (slotG all t j) (vcSeqH C all r (dropH o (withG all j true kn)) k (put t o.dst undef) w) (runH C o (withG all j false kn) (fun kn' t' w' => vcSeqH C all r kn' k t' w') t w)
def seqMarkH (l : List Nat) : Bool := match l with | [x] => x == 1000001 | _ => false
def KnH (t : Fr) (kn : List (Nat × Bool)) : Prop := ∀ s b, (s, b) ∈ kn → t.getD s undef = .bool b
theorem lookup_mem {kn : List (Nat × Bool)} {s : Nat} {b : Bool} (h : kn.lookup s = some b) : (s, b) ∈ kn := by
  induction kn with
  | nil => simp at h
  | cons x r ih =>
    obtain ⟨a, d⟩ := x
    simp only [List.lookup] at h
    split at h
    · rename_i e
      simp only [Option.some.injEq] at h
      subst h
      have : s = a := by simpa using e
      subst this; simp
    · exact List.mem_cons_of_mem _ (ih h)
theorem knowO_spec {t : Fr} {kn : List (Nat × Bool)} {x : Operand} {b : Bool} (hk : KnH t kn) (h : knowO kn x = some b) : ev t x = .bool b := by
  unfold knowO at h
  split at h
  · simp only [Option.some.injEq] at h; subst h; rfl
  · exact hk _ _ (lookup_mem h)
  · cases h
theorem learn_spec {C : Ctx} {t : Fr} {kn : List (Nat × Bool)} {o : Oper} {b : Bool} (hk : KnH t kn) (h : learn kn o.op = some b) {w : World} {k : Value → World → Prop} (hv : k (.bool b) w) : opP C o (ev t) w k := by
  unfold learn at h
  split at h
  · rename_i x hx
    unfold opP; rw [hx]; exact ⟨_, congrArg some (knowO_spec hk h), hv⟩
  · rename_i x hx
    unfold opP; rw [hx]; exact ⟨_, congrArg some (knowO_spec hk h), hv⟩
  · rename_i c x y hx
    have : ∃ v, pickV (ev t c) (ev t x) (ev t y) = some v ∧ k v w := by
      split at h
      · rename_i hc
        rw [knowO_spec hk hc]
        exact ⟨_, congrArg some (knowO_spec hk h), hv⟩
      · rename_i hc
        rw [knowO_spec hk hc]
        exact ⟨_, congrArg some (knowO_spec hk h), hv⟩
      · cases h
    unfold opP; rw [hx]; exact this
  · cases h
theorem KnH.drop {t : Fr} {kn : List (Nat × Bool)} (h : KnH t kn) (o : Oper) (v : Value) : KnH (put t o.dst v) (dropH o kn) := by
  intro s b hm
  unfold dropH at hm
  cases ho : o.dst with
  | none => rw [ho] at hm; exact h s b hm
  | some d =>
    rw [ho] at hm
    obtain ⟨h1, h2⟩ := List.mem_filter.1 hm
    have hne : s ≠ d := by simpa using h2
    have h3 := h s b h1
    rw [← h3]
    simp only [put, List.getD_eq_getElem?_getD]
    rw [List.getElem?_set_ne (Ne.symm hne)]
theorem wantH_spec {all : List Oper} {t : Fr} {kn : List (Nat × Bool)} {o : Oper} {b : Bool} (h : KnH t kn) (hw : wantH all kn o.guard = some b) : Region.wanted o (yielded all.toArray t.toArray) = b := by
  unfold wantH at hw
  unfold Region.wanted
  cases hg : o.guard with
  | none => rw [hg] at hw; simpa using hw
  | some g =>
    obtain ⟨j, b'⟩ := g
    rw [hg] at hw
    simp only at hw ⊢
    cases hd : gslot all j with
    | none => rw [hd] at hw; cases hw
    | some d =>
      rw [hd] at hw
      simp only at hw
      cases hl : kn.lookup d with
      | none => rw [hl] at hw; cases hw
      | some c =>
        rw [hl] at hw
        have hs : slotG all t j = .bool c := by
          unfold slotG
          have : (all[j]?).bind (·.dst) = some d := hd
          rw [this]
          exact h d c (lookup_mem hl)
        rw [slotG_yielded hs]
        simp only [Option.some.injEq] at hw
        rw [← hw]
        cases c <;> cases b' <;> rfl
theorem KnH.with_ {all : List Oper} {t : Fr} {kn : List (Nat × Bool)} {j : Nat} {c : Bool} (h : KnH t kn) (hs : slotG all t j = .bool c) : KnH t (withG all j c kn) := by
  unfold withG
  cases hd : gslot all j with
  | none => exact h
  | some d =>
    have hd' : (all[j]?).bind (·.dst) = some d := hd
    unfold slotG at hs
    rw [hd'] at hs
    intro s b hm
    rcases List.mem_cons.1 hm with e | e
    · cases e; exact hs
    · exact h s b e
theorem opP_mono {C : Ctx} {o : Oper} {ρ : Operand → Value} {w : World} {k k' : Value → World → Prop} (h : opP C o ρ w k) (hk : ∀ v w', k v w' → k' v w') : opP C o ρ w k' := by
  unfold opP at h ⊢
  split at h
  · obtain ⟨v, h1, h2⟩ := h; exact ⟨v, h1, hk _ _ h2⟩
  · split at h
    · obtain ⟨v, h1, h2⟩ := h; exact ⟨v, h1, hk _ _ h2⟩
    · exact effP_mono h hk
def okH (os : List Oper) (n : Nat) : Bool := os.all fun o => match o.dst with | some d => decide (d < n) | none => true
theorem okH_spec {os : List Oper} {n : Nat} (h : okH os n = true) : ∀ o ∈ os, ∀ d, o.dst = some d → d < n := by
  intro o ho d hd
  unfold okH at h
  rw [List.all_eq_true] at h
  have := h o ho
  rw [hd] at this
  simpa using this
section
variable {C : Ctx} {l : Option Nat} {Q : Exit → Act → World → Prop}
theorem vcSeqH_sound (hC : C.OK) {all : List Oper} (os : List Oper) : ∀ (kn : List (Nat × Bool)) (k : Fr → World → Prop) (t : Fr) (w : World) (ds : List Deferred) (w0 : World), vcSeqH C all os kn k t w → NC C.X w0 w → KnH t kn → (∀ o ∈ os, ∀ d, o.dst = some d → d < t.length) →
    (∀ t' w', t'.length = t.length → (∀ i, i ∉ os.filterMap (·.dst) → t'[i]? = t[i]?) → NC C.X w0 w' → k t' w' → Q .normal ⟨t'.toArray, ds⟩ w') →
    wpListIn (FF l) 0 C.P all.toArray Q os ⟨t.toArray, ds⟩ w := by
  induction os with
  | nil => intro kn k t w ds w0 h hn _ _ hQ; exact hQ t w rfl (fun _ _ => rfl) hn h
  | cons o r ih =>
    intro kn k t w ds w0 h hn hkn hlen hQ
    have follow : ∀ (kn' : List (Nat × Bool)) (v : Value) (w' : World), KnH (put t o.dst v) kn' → NC C.X w w' → vcSeqH C all r kn' k (put t o.dst v) w' → wpListIn (FF l) 0 C.P all.toArray Q r ⟨(put t o.dst v).toArray, ds⟩ w' := by
      intro kn' v w' hkn' hn' hk
      have hl0 : (put t o.dst v).length = t.length := by cases o.dst <;> simp [put]
      refine ih kn' k _ w' ds w0 hk (hn.trans hn') hkn' (fun o' ho' d hd => by rw [hl0]; exact hlen o' (by simp [ho']) d hd) ?_
      intro t' w'' hl hs hn'' hk'
      refine hQ t' w'' ?_ ?_ hn'' hk'
      · rw [hl, hl0]
      · intro i hi
        have h1 : i ∉ r.filterMap (·.dst) := by
          intro hm; exact hi (by rw [List.filterMap_cons]; split <;> simp_all)
        rw [hs i h1]
        cases hd : o.dst with
        | none => rfl
        | some d =>
          have : d ≠ i := by
            intro e; subst e; exact hi (by rw [List.filterMap_cons, hd]; simp)
          simp [put, List.getElem?_set_ne this]
    have run : ∀ kn' : List (Nat × Bool), KnH t kn' → runH C o kn' (fun kn' t' w' => vcSeqH C all r kn' k t' w') t w → Region.wanted o (yielded all.toArray t.toArray) = true → wpListIn (FF l) 0 C.P all.toArray Q (o :: r) ⟨t.toArray, ds⟩ w := by
      intro kn' hkn' h hw
      have h' : opP C o (ev t) w fun v w' => ∃ kn2, KnH (put t o.dst v) kn2 ∧ vcSeqH C all r kn2 k (put t o.dst v) w' := by
        unfold runH at h
        cases hl : learn kn' o.op with
        | some b =>
          rw [hl] at h
          refine learn_spec hkn' hl ⟨_, ?_, h⟩
          have hd := hkn'.drop o (.bool b)
          unfold addH
          cases ho : o.dst with
          | none => rw [ho] at hd; exact hd
          | some d =>
            rw [ho] at hd
            intro s c hm
            rcases List.mem_cons.1 hm with e | e
            · cases e
              have hdl := hlen o (by simp) d ho
              simp only [put, List.getD_eq_getElem?_getD, List.getElem?_set_self hdl]; rfl
            · exact hd s c e
        | none =>
          rw [hl] at h
          simp only at h
          have aux : ∀ {v : Value} {w' : World}, vcSeqH C all r (dropH o kn') k (put t o.dst v) w' → ∃ kn2, KnH (put t o.dst v) kn2 ∧ vcSeqH C all r kn2 k (put t o.dst v) w' := fun {v w'} h => ⟨_, hkn'.drop o v, h⟩
          have h2 : opP C o (ev t) w fun v w' => vcSeqH C all r (dropH o kn') k (put t o.dst v) w' := by
            unfold runG at h
            split at h
            · rename_i x hx
              unfold opP; rw [hx]; exact ⟨_, rfl, h⟩
            · rename_i x hx
              unfold opP; rw [hx]; exact ⟨_, rfl, h⟩
            · exact h
          exact opP_mono h2 fun v w' h => aux h
      refine wpListIn_step fun K hK => ?_
      rw [if_pos hw]
      have hs := opP_sound (l := l) (Q := Q) hC (a := ⟨t.toArray, ds⟩) (by rw [eval_ev]; exact h')
      refine Oper.wpIn_mono ?_ hs
      rintro a' w' ⟨v, rfl, hn', kn2, hk2, hk⟩
      rw [put_put]
      exact hK _ _ (follow kn2 v w' hk2 hn' hk)
    have skip : ∀ kn' : List (Nat × Bool), KnH t kn' → vcSeqH C all r (dropH o kn') k (put t o.dst undef) w → Region.wanted o (yielded all.toArray t.toArray) = false → wpListIn (FF l) 0 C.P all.toArray Q (o :: r) ⟨t.toArray, ds⟩ w := by
      intro kn' hkn' h hw
      refine wpListIn_step fun K hK => ?_
      rw [if_neg (by rw [hw]; simp)]
      refine ⟨fun _ _ => trivial, ?_⟩
      rw [put_put]
      exact hK _ _ (follow _ undef w (hkn'.drop o undef) (NC.refl _ _) h)
    unfold vcSeqH at h
    split at h
    · rename_i hw; exact run kn hkn h (wantH_spec hkn hw)
    · rename_i hw; exact skip kn hkn h (wantH_spec hkn hw)
    · split at h
      · exact h.elim
      · rename_i j hg
        obtain ⟨c, hc, h1, h2⟩ := h
        have hy := slotG_yielded hc
        have hw : Region.wanted o (yielded all.toArray t.toArray) = c := by
          unfold Region.wanted; rw [hg]; simp only [hy]; cases c <;> rfl
        cases c with
        | true => exact run _ (hkn.with_ hc) (h1 rfl) hw
        | false => exact skip _ (hkn.with_ hc) (h2 rfl) hw
      · rename_i j hg
        obtain ⟨c, hc, h1, h2⟩ := h
        have hy := slotG_yielded hc
        have hw : Region.wanted o (yielded all.toArray t.toArray) = !c := by
          unfold Region.wanted; rw [hg]; simp only [hy]; cases c <;> rfl
        cases c with
        | true => exact skip _ (hkn.with_ hc) (h1 rfl) hw
        | false => exact run _ (hkn.with_ hc) (h2 rfl) hw
end
section defs
variable (τ : TypeId → Ty) (os : List Oper) (t0 : Fr)
def effOp (o : Oper) : Bool := !(moveOp o.op) && !(pureOp τ o.op)
def opVal (o : Oper) (e : Value) (ρ : Operand → Value) : Value :=
  match o.op with
  | .move x => ρ x
  | .assign x => ρ x
  | op => match pureOp τ op with
    | true => (pv τ op ρ).getD undef
    | false => e
def rf (env : Nat → Value) : Nat → Fr
  | 0 => t0
  | i + 1 => match os[i]? with
    | none => rf env i
    | some o => put (rf env i) o.dst (opVal τ o (env i) (ev (rf env i)))
def val (env : Nat → Value) (i : Nat) : Value :=
  match os[i]? with
  | none => undef
  | some o => opVal τ o (env i) (ev (rf τ os t0 env i))
def isB (v : Value) (want : Bool) : Bool := match v with | .bool b => b == want | _ => false
def gdOf (i : Nat) : Option (Nat × Bool) := (os[i]?).bind (·.guard)
def gB (env : Nat → Value) : Nat → Nat → Bool
  | 0, _ => true
  | n + 1, i => match gdOf os i with
    | none => true
    | some (j, want) => gB env n j && isB (val τ os t0 env j) want
def gImp (env : Nat → Value) : Nat → Nat → Prop → Prop
  | 0, _, p => p
  | n + 1, i, p => match gdOf os i with
    | none => p
    | some (j, want) => gImp env n j (val τ os t0 env j = .bool want → p)
theorem isB_iff {v : Value} {b : Bool} : isB v b = true ↔ v = .bool b := by
  cases v <;> simp [isB]
theorem gImp_iff (env : Nat → Value) : ∀ (n i : Nat) (p : Prop), gImp τ os t0 env n i p ↔ (gB τ os t0 env n i = true → p) := by
  intro n
  induction n with
  | zero => intro i p; simp [gImp, gB]
  | succ n ih =>
    intro i p
    unfold gImp gB
    cases gdOf os i with
    | none => simp
    | some g =>
      obtain ⟨j, want⟩ := g
      simp only [ih, Bool.and_eq_true, isB_iff]
      exact ⟨fun h ⟨a, b⟩ => h a b, fun h a b => h ⟨a, b⟩⟩
end defs
def masks : List Oper → List Nat → List Nat
  | [], acc => acc
  | o :: r, acc => masks r (acc ++ [o.after.toList.foldl (fun s e => if Region.binds .any e then s ||| 2 ^ e.on ||| acc.getD e.on 0 else s) 0])
def reach (M : List Nat) (i j : Nat) : Bool := (M.getD i 0).testBit j
def effs (τ : TypeId → Ty) (os : List Oper) (n : Nat) : List Nat := (List.range n).filter fun i => match os[i]? with | some o => effOp τ o | none => false
def upd (env : Nat → Value) (j : Nat) (v : Value) : Nat → Value := fun k => if k = j then v else env k
def allV : List Nat → ((Nat → Value) → Prop) → Prop
  | [], f => f fun _ => undef
  | j :: r, f => ∀ v : Value, allV r fun env => f (upd env j v)
abbrev AF := Nat → Value → World → Prop
def updA (A : AF) (j : Nat) (B : Value → World → Prop) : AF := fun k => if k = j then B else A k
def exA : List Nat → (AF → Prop) → Prop
  | [], f => f fun _ _ _ => True
  | j :: r, f => ∃ B : Value → World → Prop, exA r fun A => f (updA A j B)
def linOp (listed : List Nat) (i : Nat) (o : Oper) : Bool :=
  match o.op with
  | .store .. | .insert .. | .mapUpdate .. => true
  | .call { callee := .builtin .append, .. } => true
  | _ => listed.contains i
def lins (listed : List Nat) (os : List Oper) (n : Nat) : List Nat := (List.range n).filter fun i => match os[i]? with | some o => linOp listed i o | none => false
def hyps : List Nat → (Nat → Prop) → Prop → Prop
  | [], _, p => p
  | j :: r, h, p => h j → hyps r h p
theorem hyps_iff (js : List Nat) (h : Nat → Prop) (p : Prop) : hyps js h p ↔ ((∀ j ∈ js, h j) → p) := by
  induction js with
  | nil => simp [hyps]
  | cons j r ih =>
    simp only [hyps, ih, List.mem_cons, forall_eq_or_imp]
    exact ⟨fun f ⟨a, b⟩ => f a b, fun f a b => f ⟨a, b⟩⟩
def lvOp (o : Oper) (v : Value) (ρ : Operand → Value) : Value := match o.op with | .store _ a _ => ρ a | _ => v
def lvl (τ : TypeId → Ty) (os : List Oper) (t0 : Fr) (env : Nat → Value) (j : Nat) : Value := match os[j]? with | some o => lvOp o (env j) (ev (rf τ os t0 env j)) | none => env j
def newAt (os : List Oper) (j : Nat) : Bool := match os[j]? with | some o => newOp o.op && o.guard.isNone | none => false
def distTo (env : Nat → Value) (j : Nat) : List Nat → Prop → Prop
  | [], p => p
  | k :: r, p => blkOf (env j) ≠ blkOf (env k) → distTo env j r p
def dist (env : Nat → Value) : List Nat → Prop → Prop
  | [], p => p
  | j :: r, p => distTo env j r (dist env r p)
theorem distTo_of {env : Nat → Value} {j : Nat} : ∀ {js : List Nat} {p : Prop}, distTo env j js p → (∀ k ∈ js, blkOf (env j) ≠ blkOf (env k)) → p
  | [], _, h, _ => h
  | k :: r, _, h, hd => distTo_of (h (hd k (by simp))) fun x hx => hd x (by simp [hx])
theorem dist_of {env : Nat → Value} : ∀ {js : List Nat} {p : Prop}, dist env js p → js.Nodup → (∀ j ∈ js, ∀ k ∈ js, j ≠ k → blkOf (env j) ≠ blkOf (env k)) → p
  | [], _, h, _, _ => h
  | j :: r, _, h, hn, hd => by
    have hn' := List.nodup_cons.1 hn
    exact dist_of (distTo_of h fun k hk => hd j (by simp) k (by simp [hk]) (fun e => hn'.1 (e ▸ hk))) hn'.2 fun a ha b hb => hd a (by simp [ha]) b (by simp [hb])
def obl (C : Ctx) (os : List Oper) (t0 : Fr) (w0 : World) (M : List Nat) (lin : List Nat) (T : World → World → Prop) (A : AF) (L : List Value → World → Prop) (i : Nat) : Prop :=
  match os[i]? with
  | none => True
  | some o =>
    match moveOp o.op with
    | true => True
    | false =>
    let js := effs C.τ os i
    let pre := js.filter (reach M i)
    allV js fun env => ∀ w, T w0 w →
      match lin.contains i with
      | true => L ((lin.takeWhile (· != i)).map (lvl C.τ os t0 env)) w → dist env (pre.filter (newAt os)) (hyps pre (fun j => gImp C.τ os t0 env os.length j (A j (env j) w)) (effP C o.op o.type (ev (rf C.τ os t0 env i)) w fun v w' =>
          T w w' ∧ (∀ w'', T w' w'' → A i v w'') ∧ ∀ w'', Grow w' w'' → L ((lin.takeWhile (· != i)).map (lvl C.τ os t0 env) ++ [lvOp o v (ev (rf C.τ os t0 env i))]) w''))
      | false => dist env (pre.filter (newAt os)) (hyps pre (fun j => gImp C.τ os t0 env os.length j (A j (env j) w)) (gImp C.τ os t0 env os.length i
          (match pureOp C.τ o.op with
           | true => ∃ v, pv C.τ o.op (ev (rf C.τ os t0 env i)) = some v
           | false => effP C o.op o.type (ev (rf C.τ os t0 env i)) w fun v w' => Grow w w' ∧ ∀ w'', T w' w'' → A i v w'')))
def andAll : List Nat → (Nat → Prop) → Prop → Prop
  | [], _, p => p
  | i :: r, f, p => f i ∧ andAll r f p
def fin (os : List Oper) (h : Nat → Value) : Nat → Fr → Fr
  | 0, t => t
  | i + 1, t => match os[i]? with
    | none => fin os h i t
    | some o => match o.guard with
      | none => fin os h i t
      | some _ => put (fin os h i t) o.dst (h i)
def oblOps (os : List Oper) : List Nat := (List.range os.length).filter fun i => match os[i]? with | some o => !(moveOp o.op) | none => false
def flowBody (C : Ctx) (listed : List Nat) (os : List Oper) (k : Fr → World → Prop) (t0 : Fr) (w0 : World) (T : World → World → Prop) (L : List Value → World → Prop) : Prop :=
  let M := masks os []
  let lin := lins listed os os.length
  let js := effs C.τ os os.length
  exA js fun A =>
    andAll (oblOps os) (obl C os t0 w0 M lin T A L)
      (allV js fun env => ∀ (h : Nat → Value) w, T w0 w → dist env (js.filter (newAt os)) (hyps js (fun j => gImp C.τ os t0 env os.length j (A j (env j) w)) (match lin with | [] => k (fin os h os.length (rf C.τ os t0 env os.length)) w | _ => L (lin.map (lvl C.τ os t0 env)) w → k (fin os h os.length (rf C.τ os t0 env os.length)) w)))
abbrev AFG := Nat → Value → Nat × World → Prop
def updAG (A : AFG) (j : Nat) (B : Value → Nat × World → Prop) : AFG := fun k => if k = j then B else A k
def exAG : List Nat → (AFG → Prop) → Prop
  | [], f => f fun _ _ _ => True
  | j :: r, f => ∃ B : Value → Nat × World → Prop, exAG r fun A => f (updAG A j B)
def room (M : List Nat) (lin : List Nat) (i : Nat) : Nat := (lin.takeWhile fun c => !(reach M c i)).length
def oblG (C : Ctx) (os : List Oper) (t0 : Fr) (w0 : World) (M : List Nat) (lin : List Nat) (T : Nat × World → Nat × World → Prop) (A : AFG) (L : List Value → World → Prop) (i : Nat) : Prop :=
  match os[i]? with
  | none => True
  | some o =>
    match moveOp o.op with
    | true => True
    | false =>
    let js := effs C.τ os i
    let pre := js.filter (reach M i)
    allV js fun env => ∀ n w, n ≤ room M lin i → T (0, w0) (n, w) →
      match lin.contains i with
      | true => n = (lin.takeWhile (· != i)).length → L ((lin.takeWhile (· != i)).map (lvl C.τ os t0 env)) w → dist env (pre.filter (newAt os)) (hyps pre (fun j => gImp C.τ os t0 env os.length j (A j (env j) (n, w))) (effP C o.op o.type (ev (rf C.τ os t0 env i)) w fun v w' =>
          T (n, w) (n + 1, w') ∧ (∀ m w'', T (n + 1, w') (m, w'') → A i v (m, w'')) ∧ ∀ w'', Grow w' w'' → L ((lin.takeWhile (· != i)).map (lvl C.τ os t0 env) ++ [lvOp o v (ev (rf C.τ os t0 env i))]) w''))
      | false => dist env (pre.filter (newAt os)) (hyps pre (fun j => gImp C.τ os t0 env os.length j (A j (env j) (n, w))) (gImp C.τ os t0 env os.length i
          (match pureOp C.τ o.op with
           | true => ∃ v, pv C.τ o.op (ev (rf C.τ os t0 env i)) = some v
           | false => effP C o.op o.type (ev (rf C.τ os t0 env i)) w fun v w' => Grow w w' ∧ ∀ m w'', T (n, w') (m, w'') → A i v (m, w''))))
def flowEndG (C : Ctx) (listed : List Nat) (os : List Oper) (k : Fr → World → Prop) (t0 : Fr) (w0 : World) (T : Nat × World → Nat × World → Prop) (A : AFG) (L : List Value → World → Prop) : Prop :=
  let lin := lins listed os os.length
  let js := effs C.τ os os.length
  allV js fun env => ∀ (h : Nat → Value) w, T (0, w0) (lin.length, w) → dist env (js.filter (newAt os)) (hyps js (fun j => gImp C.τ os t0 env os.length j (A j (env j) (lin.length, w))) (L (lin.map (lvl C.τ os t0 env)) w → k (fin os h os.length (rf C.τ os t0 env os.length)) w))
def flowBodyG (C : Ctx) (listed : List Nat) (os : List Oper) (k : Fr → World → Prop) (t0 : Fr) (w0 : World) (T : Nat × World → Nat × World → Prop) (L : List Value → World → Prop) : Prop :=
  exAG (effs C.τ os os.length) fun A =>
    andAll (oblOps os) (oblG C os t0 w0 (masks os []) (lins listed os os.length) T A L)
      (flowEndG C listed os k t0 w0 T A L)
def flow (C : Ctx) (listed : List Nat) (os : List Oper) (k : Fr → World → Prop) (t0 : Fr) (w0 : World) : Prop :=
  match listed with
  | [] => (match lins [] os os.length with
    | [] => flowBody C [] os k t0 w0 Grow (fun _ _ => True)
    | _ => ∃ (T : World → World → Prop) (L : List Value → World → Prop), (∀ a b, Grow a b → T a b) ∧ (∀ a b c, T a b → T b c → T a c) ∧ (∀ w, Grow w0 w → L [] w) ∧
      flowBody C [] os k t0 w0 T L)
  | _ => ∃ (T : Nat × World → Nat × World → Prop) (L : List Value → World → Prop), (∀ n a b, Grow a b → T (n, a) (n, b)) ∧ (∀ a b c, T a b → T b c → T a c) ∧ (∀ w, Grow w0 w → L [] w) ∧
      flowBodyG C listed os k t0 w0 T L
def Ph (a b : Nat × World) : Prop := (a.1 = b.1 ∧ Grow a.2 b.2) ∨ a.1 < b.1
theorem Ph.grow (n : Nat) (a b : World) (h : Grow a b) : Ph (n, a) (n, b) := .inl ⟨rfl, h⟩
theorem Ph.trans (a b c : Nat × World) (h : Ph a b) (h' : Ph b c) : Ph a c := by
  rcases h with ⟨e, g⟩ | h <;> rcases h' with ⟨e', g'⟩ | h'
  · exact .inl ⟨e.trans e', g.trans g'⟩
  · exact .inr (e ▸ h')
  · exact .inr (e' ▸ h)
  · exact .inr (Nat.lt_trans h h')
end Go.Vc
namespace Go.Vc
open Go
def opnds : Op → List Operand
  | .move x | .assign x | .unOp _ _ x | .convert _ _ x | .extract x _ | .fieldAddr _ x _ | .field _ x _ | .nilCheck x | .load _ x | .box _ x => [x]
  | .pick a b c => [a, b, c]
  | .binOp _ _ x y _ | .indexAddr _ x y | .store _ x y | .makeSlice _ x y | .lookup _ x y _ => [x, y]
  | .makeFunc _ a b => a.toList ++ b.toList
  | .slice _ x lo hi mx => x :: (lo.toList ++ hi.toList ++ mx.toList)
  | .build _ ps | .buildSlice _ _ ps => ps.toList.map (·.2)
  | .insert _ m x v | .mapUpdate _ m x v => [m, x, v]
  | .makeMap _ r => r.toList
  | .alloc _ => []
  | .call c => (match c.callee with | .value f => [f] | _ => []) ++ c.args.toList
  | _ => []
def known : Op → Bool
  | .move _ | .assign _ | .unOp .. | .convert .. | .extract .. | .fieldAddr .. | .field .. | .nilCheck _ | .load .. | .box .. | .pick .. | .binOp .. | .indexAddr .. | .store .. | .makeSlice .. | .lookup ..
  | .makeFunc .. | .slice .. | .build .. | .buildSlice .. | .insert .. | .mapUpdate .. | .makeMap .. | .alloc _ | .call _ => true
  | _ => false
theorem map_congr_list {α β : Type} {f g : α → β} {l : List α} (h : ∀ x ∈ l, f x = g x) : l.map f = l.map g := List.map_congr_left h
theorem pv_congr {τ : TypeId → Ty} {op : Op} {ρ ρ' : Operand → Value} (h : ∀ x ∈ opnds op, ρ x = ρ' x) (hk : known op = true) : pv τ op ρ = pv τ op ρ' := by
  cases op <;> simp only [known, Bool.false_eq_true] at hk <;> simp only [opnds, List.mem_cons, List.not_mem_nil, or_false, forall_eq_or_imp, forall_eq, List.mem_append] at h
  case move => simp [pv, h]
  case assign => simp [pv, h]
  case unOp => simp [pv, h]
  case convert => simp [pv, h]
  case extract => simp [pv, h]
  case fieldAddr => simp [pv, h]
  case field => simp [pv, h]
  case nilCheck => simp [pv, h]
  case load => simp [pv]
  case box => simp [pv]
  case alloc => simp [pv]
  case pick => simp [pv, h]
  case binOp => simp [pv, h]
  case indexAddr => simp [pv, h]
  case store => simp [pv]
  case makeSlice => simp [pv]
  case lookup => simp [pv]
  case makeMap => simp [pv]
  case insert => simp [pv]
  case mapUpdate => simp [pv]
  case buildSlice => simp [pv]
  case makeFunc fn a b =>
    simp only [pv]
    rw [map_congr_list (fun x hx => h x (Or.inl hx)), map_congr_list (l := b.toList) (fun x hx => h x (Or.inr hx))]
  case build t ps =>
    simp only [pv]
    rw [List.map_congr_left (g := fun p : Nat × Operand => (p.1, ρ' p.2)) (fun p hp => by rw [h p.2 (List.mem_map.2 ⟨p, hp, rfl⟩)])]
  case slice t x lo hi mx =>
    cases mx with
    | some _ => simp [pv]
    | none =>
      simp only [pv]
      rw [h.1]
      have e1 : lo.map ρ = lo.map ρ' := by cases lo <;> simp_all
      have e2 : hi.map ρ = hi.map ρ' := by cases hi <;> simp_all
      rw [e1, e2]
  case call c =>
    obtain ⟨cal, ⟨ags⟩, ⟨ts⟩⟩ := c
    cases cal with
    | value f => simp [pv]
    | invoke f m => simp [pv]
    | builtin b =>
      have hx : ∀ x ∈ ags, ρ x = ρ' x := fun x hx => h x (Or.inr hx)
      cases b <;> simp only [pv]
      · cases ags with
        | nil => rfl
        | cons a r => cases r with
          | nil => cases ts with
            | nil => rfl
            | cons t r => cases r with
              | nil => simp [hx a (by simp)]
              | cons => rfl
          | cons => rfl
      · cases ags with
        | nil => rfl
        | cons a r => cases r with
          | nil => rfl
          | cons b r => cases r with
            | nil => simp [hx a (by simp), hx b (by simp)]
            | cons => rfl
      · cases ags with
        | nil => rfl
        | cons a r => cases r with
          | nil => rfl
          | cons b r => cases r with
            | nil => simp [hx a (by simp), hx b (by simp)]
            | cons => rfl
theorem effP_congr {C : Ctx} {op : Op} {ty : TypeId} {ρ ρ' : Operand → Value} {w : World} {k : Value → World → Prop} (h : ∀ x ∈ opnds op, ρ x = ρ' x) (hk : known op = true) : effP C op ty ρ w k = effP C op ty ρ' w k := by
  cases op <;> simp only [known, Bool.false_eq_true] at hk <;> simp only [opnds, List.mem_cons, List.not_mem_nil, or_false, forall_eq_or_imp, forall_eq, List.mem_append] at h
  case load => simp [effP, h]
  case box => simp [effP, h]
  case alloc => simp [effP]
  case binOp => simp [effP, h]
  case store => simp [effP, h]
  case makeSlice => simp [effP, h]
  case lookup => simp [effP, h]
  case makeMap t r =>
    have : r.map ρ = r.map ρ' := by cases r <;> simp_all
    simp [effP, this]
  case insert => simp [effP, h]
  case mapUpdate => simp [effP, h]
  case buildSlice t n ps =>
    simp only [effP]
    rw [List.map_congr_left (g := fun p : Nat × Operand => (p.1, ρ' p.2)) (fun p hp => by rw [h p.2 (List.mem_map.2 ⟨p, hp, rfl⟩)])]
  case call c =>
    obtain ⟨cal, ⟨ags⟩, ⟨ts⟩⟩ := c
    have e : ags.map ρ = ags.map ρ' := map_congr_list fun x hx => h x (Or.inr hx)
    cases cal with
    | value f =>
      simp only [effP, e]
      cases f <;> simp [callF, h]
    | invoke f m => simp [effP]
    | builtin b => cases b <;> simp [effP, e]
  all_goals simp [effP]
theorem opVal_congr {τ : TypeId → Ty} {o : Oper} {e : Value} {ρ ρ' : Operand → Value} (h : ∀ x ∈ opnds o.op, ρ x = ρ' x) (hk : known o.op = true) : opVal τ o e ρ = opVal τ o e ρ' := by
  unfold opVal
  split
  · rename_i x hx; exact h x (by rw [hx]; simp [opnds])
  · rename_i x hx; exact h x (by rw [hx]; simp [opnds])
  · rw [pv_congr h hk]
def slotOf : Operand → Option Nat
  | .tmp t => some t
  | _ => none
def slots (o : Oper) : List Nat := (opnds o.op).filterMap slotOf
def dstAt (os : List Oper) (j : Nat) : Option Nat := (os[j]?).bind (·.dst)
def lw (os : List Oper) : Nat → Nat → Option Nat
  | 0, _ => none
  | i + 1, t => if dstAt os i = some t then some i else lw os i t
def idx (n : Nat) : List Nat := List.range n
structure FlowOK (τ : TypeId → Ty) (listed : List Nat) (os : List Oper) (nt : Nat) : Prop where
  known : ∀ (i : Nat) (o : Oper), os[i]? = some o → known o.op = true ∧ noDefer o.op = true
  edge : ∀ (i : Nat) (o : Oper), os[i]? = some o → ∀ e ∈ o.after.toList, Region.binds .any e = true → e.on < i
  slot : ∀ (i : Nat) (o : Oper) (t : Nat), os[i]? = some o → (t ∈ slots o ∨ o.dst = some t ∨ (∃ j b, o.guard = some (j, b) ∧ dstAt os j = some t)) →
    t < nt ∧ ∀ j, dstAt os j = some t → j ≠ i → if j < i then reach (masks os []) i j = true else reach (masks os []) j i = true
  guard : ∀ (i : Nat) (o : Oper) (j : Nat) (b : Bool), os[i]? = some o → o.guard = some (j, b) → j < i ∧ reach (masks os []) i j = true ∧ ∃ d, dstAt os j = some d ∧ lw os i d = some j
  data : ∀ (i : Nat) (o : Oper), os[i]? = some o → match o.op with
    | .pick c a b => (∀ t, slotOf c = some t → ∀ j, lw os i t = some j → gdOf os j = none ∨ gdOf os j = o.guard) ∧
        (∀ t, slotOf a = some t → ∀ j, lw os i t = some j → gdOf os j = none ∨ gdOf os j = o.guard ∨ ∃ c' jc, slotOf c = some c' ∧ lw os i c' = some jc ∧ gdOf os j = some (jc, true)) ∧
        (∀ t, slotOf b = some t → ∀ j, lw os i t = some j → gdOf os j = none ∨ gdOf os j = o.guard ∨ ∃ c' jc, slotOf c = some c' ∧ lw os i c' = some jc ∧ gdOf os j = some (jc, false))
    | _ => ∀ t ∈ slots o, ∀ j, lw os i t = some j → gdOf os j = none ∨ gdOf os j = o.guard
  lin : ∀ (i : Nat) (o : Oper), i ∈ lins listed os os.length → os[i]? = some o → o.guard = none ∧ moveOp o.op = false ∧ pureOp τ o.op = false
  chain : ∀ (p : List Nat) (a b : Nat) (s : List Nat), lins listed os os.length = p ++ a :: b :: s → reach (masks os []) b a = true
  gdst : ∀ (i : Nat) (o : Oper) (d : Nat), os[i]? = some o → o.guard.isSome = true → o.dst = some d → ∀ j, dstAt os j = some d → j = i
section
variable {τ : TypeId → Ty} {listed : List Nat} {os : List Oper} {t0 : Fr} {env env' : Nat → Value}
theorem dstAt_some {i d : Nat} (h : dstAt os i = some d) : ∃ o, os[i]? = some o ∧ o.dst = some d := by
  unfold dstAt at h
  cases ho : os[i]? with
  | none => simp [ho] at h
  | some o => exact ⟨o, rfl, by simpa [ho] using h⟩
theorem lt_len {i : Nat} {o : Oper} (h : os[i]? = some o) : i < os.length := (List.getElem?_eq_some_iff.1 h).1
theorem put_length (t : Fr) (d : Option Tmp) (v : Value) : (put t d v).length = t.length := by cases d <;> simp [put]
theorem rf_length : ∀ i, (rf τ os t0 env i).length = t0.length
  | 0 => rfl
  | i + 1 => by
    unfold rf
    split
    · exact rf_length i
    · rw [put_length]; exact rf_length i
theorem put_get (t : Fr) (d : Option Tmp) (v : Value) (s : Nat) (hs : s < t.length) : (put t d v).getD s undef = if d = some s then v else t.getD s undef := by
  cases d with
  | none => simp [put]
  | some d =>
    simp only [put, List.getD_eq_getElem?_getD, List.getElem?_set]
    by_cases e : d = s
    · subst e; simp [hs]
    · simp [e]
theorem rf_get {s : Nat} (hs : s < t0.length) : ∀ i, (rf τ os t0 env i).getD s undef = match lw os i s with | some j => val τ os t0 env j | none => t0.getD s undef
  | 0 => rfl
  | i + 1 => by
    have ih := rf_get hs i
    unfold rf lw
    cases ho : os[i]? with
    | none => simp only [dstAt, ho, Option.bind_none]; simpa using ih
    | some o =>
      simp only []
      rw [put_get _ _ _ _ (by rw [rf_length]; exact hs)]
      simp only [dstAt, ho, Option.bind_some]
      by_cases e : o.dst = some s
      · simp only [e, if_true]; simp [val, ho]
      · simp only [e, if_false]; exact ih
theorem lw_spec {s : Nat} : ∀ {i j : Nat}, lw os i s = some j → j < i ∧ dstAt os j = some s ∧ ∀ k, j < k → k < i → dstAt os k ≠ some s
  | 0, j, h => by simp [lw] at h
  | i + 1, j, h => by
    unfold lw at h
    split at h
    · rename_i e
      simp only [Option.some.injEq] at h; subst h
      exact ⟨by omega, e, fun k h1 h2 => by omega⟩
    · rename_i e
      obtain ⟨h1, h2, h3⟩ := lw_spec h
      refine ⟨by omega, h2, fun k hk1 hk2 => ?_⟩
      by_cases hki : k = i
      · subst hki; exact e
      · exact h3 k hk1 (by omega)
theorem masks_prefix : ∀ (os : List Oper) (acc : List Nat) (i : Nat), i < acc.length → (masks os acc)[i]? = acc[i]?
  | [], acc, i, _ => rfl
  | o :: r, acc, i, h => by
    unfold masks
    rw [masks_prefix r _ i (by simp; omega), List.getElem?_append_left h]
def maskOf (acc : List Nat) (o : Oper) : Nat := o.after.toList.foldl (fun s e => if Region.binds .any e then s ||| 2 ^ e.on ||| acc.getD e.on 0 else s) 0
theorem masks_at : ∀ (os : List Oper) (acc : List Nat) (i : Nat) (o : Oper), os[i]? = some o → ∃ acc' : List Nat, acc'.length = acc.length + i ∧ (∀ k, k < acc'.length → (masks os acc)[k]? = acc'[k]?) ∧ (masks os acc)[acc.length + i]? = some (maskOf acc' o)
  | [], acc, i, o, h => by simp at h
  | o' :: r, acc, 0, o, h => by
    simp only [List.getElem?_cons_zero, Option.some.injEq] at h
    subst h
    refine ⟨acc, by simp, fun k hk => masks_prefix _ _ _ hk, ?_⟩
    unfold masks
    rw [masks_prefix _ _ _ (by simp)]
    simp [maskOf]
  | o' :: r, acc, i + 1, o, h => by
    simp only [List.getElem?_cons_succ] at h
    obtain ⟨acc', h1, h2, h3⟩ := masks_at r (acc ++ [maskOf acc o']) i o h
    refine ⟨acc', by simp at h1; omega, fun k hk => h2 k hk, ?_⟩
    simp only [List.length_append, List.length_singleton] at h3
    have e : acc.length + (i + 1) = acc.length + 1 + i := by omega
    rw [e]; exact h3
theorem testBit_foldl (acc : List Nat) (j : Nat) : ∀ (l : List Edge) (s : Nat), (l.foldl (fun s e => if Region.binds .any e then s ||| 2 ^ e.on ||| acc.getD e.on 0 else s) s).testBit j = true →
    s.testBit j = true ∨ ∃ e ∈ l, Region.binds .any e = true ∧ (e.on = j ∨ (acc.getD e.on 0).testBit j = true)
  | [], s, h => Or.inl h
  | e :: l, s, h => by
    rw [List.foldl_cons] at h
    rcases testBit_foldl acc j l _ h with h' | ⟨e', h1, h2, h3⟩
    · by_cases hb : Region.binds .any e = true
      · simp only [hb, if_true, Nat.testBit_or, Bool.or_eq_true] at h'
        rcases h' with (h' | h') | h'
        · exact Or.inl h'
        · rw [Nat.testBit_two_pow] at h'
          exact Or.inr ⟨e, by simp, hb, Or.inl (by simpa using h')⟩
        · exact Or.inr ⟨e, by simp, hb, Or.inr h'⟩
      · simp only [hb] at h'
        exact Or.inl h'
    · exact Or.inr ⟨e', by simp [h1], h2, h3⟩
def Closed (os : List Oper) (D : Nat → Bool) : Prop := ∀ i o, D i = true → os[i]? = some o → ∀ e ∈ o.after.toList, Region.binds .any e = true → D e.on = true
def Ready (os : List Oper) (D : Nat → Bool) (i : Nat) : Prop := ∀ o, os[i]? = some o → ∀ e ∈ o.after.toList, Region.binds .any e = true → D e.on = true
theorem reach_ready (hf : FlowOK τ listed os t0.length) {D : Nat → Bool} (hD : Closed os D) {i j : Nat} {o : Oper} (ho : os[i]? = some o) (hr : Ready os D i) (h : reach (masks os []) i j = true) : D j = true := by
  induction i using Nat.strongRecOn generalizing o with
  | _ i ih =>
    obtain ⟨acc', h1, h2, h3⟩ := masks_at os [] i o ho
    simp only [List.length_nil, Nat.zero_add] at h1 h3
    unfold reach at h
    rw [List.getD_eq_getElem?_getD, h3] at h
    simp only [Option.getD_some, maskOf] at h
    rcases testBit_foldl acc' j _ _ h with h' | ⟨e, he1, he2, he3⟩
    · simp at h'
    · have hon := hr o ho e he1 he2
      rcases he3 with he3 | he3
      · rw [← he3]; exact hon
      · have hlt := hf.edge i o ho e he1 he2
        have hme : reach (masks os []) e.on j = true := by
          unfold reach
          rw [List.getD_eq_getElem?_getD, h2 _ (by omega)]
          rw [List.getD_eq_getElem?_getD] at he3
          exact he3
        have hoe : ∃ oe, os[e.on]? = some oe := ⟨os[e.on]'(by have := lt_len ho; omega), List.getElem?_eq_getElem _⟩
        obtain ⟨oe, hoe⟩ := hoe
        exact ih e.on hlt hoe (fun o' ho' => hD _ _ hon ho') hme
theorem gB_fuel (hf : FlowOK τ listed os t0.length) : ∀ (i n n' : Nat), i < n → i < n' → gB τ os t0 env n i = gB τ os t0 env n' i := by
  intro i
  induction i using Nat.strongRecOn with
  | _ i ih =>
    intro n n' h h'
    obtain ⟨m, rfl⟩ : ∃ m, n = m + 1 := ⟨n - 1, by omega⟩
    obtain ⟨m', rfl⟩ : ∃ m, n' = m + 1 := ⟨n' - 1, by omega⟩
    unfold gB
    cases hg : gdOf os i with
    | none => rfl
    | some g =>
      obtain ⟨j, b⟩ := g
      have : j < i := by
        unfold gdOf at hg
        cases ho : os[i]? with
        | none => simp [ho] at hg
        | some o => exact (hf.guard i o j b ho (by simpa [ho] using hg)).1
      simp only []
      rw [ih j this m m' (by omega) (by omega)]
def wtd (τ : TypeId → Ty) (os : List Oper) (t0 : Fr) (env : Nat → Value) (i : Nat) : Bool := gB τ os t0 env os.length i
theorem wtd_eq (hf : FlowOK τ listed os t0.length) {i : Nat} {o : Oper} (ho : os[i]? = some o) : wtd τ os t0 env i = match o.guard with | none => true | some (j, b) => wtd τ os t0 env j && isB (val τ os t0 env j) b := by
  unfold wtd
  have hi := lt_len ho
  obtain ⟨m, hm⟩ : ∃ m, os.length = m + 1 := ⟨os.length - 1, by omega⟩
  rw [hm]
  conv => lhs; unfold gB
  have hg : gdOf os i = o.guard := by simp [gdOf, ho]
  rw [hg]
  cases h : o.guard with
  | none => rfl
  | some g =>
    obtain ⟨j, b⟩ := g
    simp only []
    have hj := (hf.guard i o j b ho h).1
    rw [gB_fuel hf j m (m + 1) (by omega) (by omega)]
def lwD (os : List Oper) (D : Nat → Bool) : Nat → Nat → Option Nat
  | 0, _ => none
  | i + 1, t => if D i = true ∧ dstAt os i = some t then some i else lwD os D i t
def slotAt (τ : TypeId → Ty) (os : List Oper) (t0 : Fr) (env : Nat → Value) (D : Nat → Bool) (t : Nat) : Value :=
  match lwD os D os.length t with
  | some j => if wtd τ os t0 env j then val τ os t0 env j else undef
  | none => t0.getD t undef
theorem lwD_eq {D : Nat → Bool} {i t : Nat} (h1 : ∀ j, j < i → dstAt os j = some t → D j = true) (h2 : ∀ j, i ≤ j → dstAt os j = some t → D j = false) : ∀ n, i ≤ n → lwD os D n t = lw os i t := by
  intro n
  induction n with
  | zero =>
    intro h
    have h0 : i = 0 := by omega
    subst h0; rfl
  | succ n ih =>
    intro h
    by_cases hin : i = n + 1
    · subst hin
      clear ih h
      have : ∀ k, k ≤ n + 1 → lwD os D k t = lw os k t := by
        intro k
        induction k with
        | zero => intro _; rfl
        | succ k ih =>
          intro hk
          unfold lwD lw
          by_cases e : dstAt os k = some t
          · rw [if_pos ⟨h1 k (by omega) e, e⟩, if_pos e]
          · rw [if_neg (fun x => e x.2), if_neg e]; exact ih (by omega)
      exact this _ (Nat.le_refl _)
    · unfold lwD
      rw [if_neg (fun x => by have := h2 n (by omega) x.2; simp [this] at x)]
      exact ih (by omega)
theorem slot_ready (hf : FlowOK τ listed os t0.length) {D : Nat → Bool} (hD : Closed os D) {i t : Nat} {o : Oper} (ho : os[i]? = some o) (hr : Ready os D i) (hi : D i = false)
    (ht : t ∈ slots o ∨ o.dst = some t ∨ (∃ j b, o.guard = some (j, b) ∧ dstAt os j = some t)) : lwD os D os.length t = lw os i t := by
  obtain ⟨_, hs⟩ := hf.slot i o t ho ht
  refine lwD_eq ?_ ?_ _ (Nat.le_of_lt (lt_len ho))
  · intro j hj hd
    have := hs j hd (by omega)
    rw [if_pos hj] at this
    exact reach_ready hf hD ho hr this
  · intro j hj hd
    cases hDj : D j with
    | false => rfl
    | true =>
      have hne : j ≠ i := by intro e; subst e; rw [hDj] at hi; cases hi
      have := hs j hd hne
      rw [if_neg (by omega)] at this
      obtain ⟨oj, hoj, _⟩ := dstAt_some hd
      have := reach_ready hf hD hoj (fun o' ho' => hD _ _ hDj ho') this
      rw [this] at hi; cases hi
theorem val_indep (hf : FlowOK τ listed os t0.length) {D : Nat → Bool} (hD : Closed os D) (he : ∀ j, D j = true → env j = env' j) : ∀ i, D i = true ∨ Ready os D i → i < os.length → (D i = true ∨ env i = env' i) →
    val τ os t0 env i = val τ os t0 env' i := by
  intro i
  induction i using Nat.strongRecOn with
  | _ i ih =>
    intro hi hlt hei
    have ho : os[i]? = some os[i] := List.getElem?_eq_getElem hlt
    have hr : Ready os D i := by rcases hi with hi | hi; exact (fun o' ho' => hD _ _ hi ho'); exact hi
    unfold val
    rw [ho]
    simp only []
    have e1 : env i = env' i := by rcases hei with h | h; exact he i h; exact h
    rw [e1]
    refine opVal_congr ?_ (hf.known i _ ho).1
    intro x hx
    cases x with
    | const v => rfl
    | global g => rfl
    | func f => rfl
    | tmp t =>
      have hts : t ∈ slots os[i] := List.mem_filterMap.2 ⟨.tmp t, hx, rfl⟩
      obtain ⟨htn, hs⟩ := hf.slot i _ t ho (.inl hts)
      show (rf τ os t0 env i).getD t undef = (rf τ os t0 env' i).getD t undef
      rw [rf_get htn, rf_get htn]
      cases hl : lw os i t with
      | none => rfl
      | some j =>
        obtain ⟨hj1, hj2, _⟩ := lw_spec hl
        have := hs j hj2 (by omega)
        rw [if_pos hj1] at this
        have hDj := reach_ready hf hD ho hr this
        exact ih j hj1 (.inl hDj) (by omega) (.inl hDj)
theorem ev_indep (hf : FlowOK τ listed os t0.length) {D : Nat → Bool} (hD : Closed os D) (he : ∀ j, D j = true → env j = env' j) {i : Nat} {o : Oper} (ho : os[i]? = some o) (hi : D i = true ∨ Ready os D i) {x : Operand} (hx : x ∈ opnds o.op) :
    ev (rf τ os t0 env i) x = ev (rf τ os t0 env' i) x := by
  have hr : Ready os D i := by rcases hi with hi | hi; exact (fun o' ho' => hD _ _ hi ho'); exact hi
  have hlt := lt_len ho
  cases x with
  | const v => rfl
  | global g => rfl
  | func f => rfl
  | tmp t =>
    have hts : t ∈ slots o := List.mem_filterMap.2 ⟨.tmp t, hx, rfl⟩
    obtain ⟨htn, hs⟩ := hf.slot i _ t ho (.inl hts)
    show (rf τ os t0 env i).getD t undef = (rf τ os t0 env' i).getD t undef
    rw [rf_get htn, rf_get htn]
    cases hl : lw os i t with
    | none => rfl
    | some j =>
      obtain ⟨hj1, hj2, _⟩ := lw_spec hl
      have := hs j hj2 (by omega)
      rw [if_pos hj1] at this
      have hDj := reach_ready hf hD ho hr this
      exact val_indep hf hD he j (.inl hDj) (by omega) (.inl hDj)
theorem lvOp_congr {o : Oper} {v v' : Value} {ρ ρ' : Operand → Value} (hv : v = v') (h : ∀ x ∈ opnds o.op, ρ x = ρ' x) : lvOp o v ρ = lvOp o v' ρ' := by
  unfold lvOp
  split
  · rename_i t a x hop; exact h a (by rw [hop]; simp [opnds])
  · exact hv
theorem lvl_indep (hf : FlowOK τ listed os t0.length) {D : Nat → Bool} (hD : Closed os D) (he : ∀ j, D j = true → env j = env' j) {j : Nat} (hj : D j = true) : lvl τ os t0 env j = lvl τ os t0 env' j := by
  unfold lvl
  cases ho : os[j]? with
  | none => exact he j hj
  | some o => exact lvOp_congr (he j hj) fun x hx => ev_indep hf hD he ho (.inl hj) hx
theorem wtd_indep (hf : FlowOK τ listed os t0.length) {D : Nat → Bool} (hD : Closed os D) (he : ∀ j, D j = true → env j = env' j) : ∀ i, D i = true ∨ Ready os D i → i < os.length →
    wtd τ os t0 env i = wtd τ os t0 env' i := by
  intro i
  induction i using Nat.strongRecOn with
  | _ i ih =>
    intro hi hlt
    have ho : os[i]? = some os[i] := List.getElem?_eq_getElem hlt
    have hr : Ready os D i := by rcases hi with hi | hi; exact (fun o' ho' => hD _ _ hi ho'); exact hi
    rw [wtd_eq hf ho, wtd_eq hf ho]
    cases hg : os[i].guard with
    | none => rfl
    | some g =>
      obtain ⟨j, b⟩ := g
      obtain ⟨h1, h2, _⟩ := hf.guard i _ j b ho hg
      have hDj := reach_ready hf hD ho hr h2
      simp only []
      rw [ih j h1 (.inl hDj) (by omega), val_indep hf hD he j (.inl hDj) (by omega) (.inl hDj)]
end
end Go.Vc
namespace Go.Vc
open Go
theorem opVal_eff {τ : TypeId → Ty} {o : Oper} (h : effOp τ o = false) (e e' : Value) (ρ : Operand → Value) : opVal τ o e ρ = opVal τ o e' ρ := by
  have hp : moveOp o.op = true ∨ pureOp τ o.op = true := by
    unfold effOp at h
    cases h1 : moveOp o.op <;> cases h2 : pureOp τ o.op <;> simp_all
  unfold opVal
  split
  · rfl
  · rfl
  · rename_i h1 h2
    have hm : moveOp o.op = false := by
      cases ho : o.op <;> first | rfl | exact absurd ho (h1 _) | exact absurd ho (h2 _)
    rcases hp with hp | hp
    · rw [hm] at hp; cases hp
    · rw [hp]
section
variable {τ : TypeId → Ty} {listed : List Nat} {os : List Oper} {t0 : Fr} {env env' : Nat → Value}
theorem rf_eff : ∀ i, (∀ j o, j < i → os[j]? = some o → effOp τ o = true → env j = env' j) → rf τ os t0 env i = rf τ os t0 env' i
  | 0, _ => rfl
  | i + 1, h => by
    have ih := rf_eff i (fun j o hj => h j o (by omega))
    unfold rf
    cases ho : os[i]? with
    | none => exact ih
    | some o =>
      simp only []
      rw [ih]
      cases he : effOp τ o with
      | true => rw [h i o (by omega) ho he]
      | false => rw [opVal_eff he (env i) (env' i)]
theorem val_eff (i : Nat) (h : ∀ j o, j ≤ i → os[j]? = some o → effOp τ o = true → env j = env' j) : val τ os t0 env i = val τ os t0 env' i := by
  unfold val
  cases ho : os[i]? with
  | none => rfl
  | some o =>
    simp only []
    rw [rf_eff i (fun j o hj => h j o (by omega))]
    cases he : effOp τ o with
    | true => rw [h i o (Nat.le_refl _) ho he]
    | false => rw [opVal_eff he (env i) (env' i)]
theorem gB_eff (hf : FlowOK τ listed os t0.length) (i : Nat) (h : ∀ j o, j < i → os[j]? = some o → effOp τ o = true → env j = env' j) : ∀ n k, k ≤ i → gB τ os t0 env n k = gB τ os t0 env' n k := by
  intro n
  induction n with
  | zero => intro k _; rfl
  | succ n ih =>
    intro k hk
    unfold gB
    cases hg : gdOf os k with
    | none => rfl
    | some g =>
      obtain ⟨j, b⟩ := g
      have hj : j < k := by
        unfold gdOf at hg
        cases ho : os[k]? with
        | none => simp [ho] at hg
        | some o => exact (hf.guard k o j b ho (by simpa [ho] using hg)).1
      simp only []
      rw [ih j (by omega), val_eff j (fun a o ha => h a o (by omega))]
theorem lvl_eff {i j : Nat} (hj : j < i) (h : ∀ k o, k < i → os[k]? = some o → effOp τ o = true → env k = env' k) (he : ∀ o, os[j]? = some o → effOp τ o = true) : lvl τ os t0 env j = lvl τ os t0 env' j ∨ os[j]? = none := by
  cases ho : os[j]? with
  | none => exact .inr rfl
  | some o =>
    left
    unfold lvl
    rw [ho]
    simp only
    rw [rf_eff j (fun k o hk => h k o (by omega)), h j o hj ho (he o ho)]
def restr (js : List Nat) (env : Nat → Value) : Nat → Value := fun k => if k ∈ js then env k else undef
theorem allV_spec (env : Nat → Value) : ∀ (js : List Nat) (f : (Nat → Value) → Prop), allV js f → f (restr js env)
  | [], f, h => by
    have : restr [] env = fun _ => undef := by funext k; simp [restr]
    rw [this]; exact h
  | j :: r, f, h => by
    have := allV_spec env r _ (h (env j))
    have e : upd (restr r env) j (env j) = restr (j :: r) env := by
      funext k
      simp only [upd, restr, List.mem_cons]
      by_cases hk : k = j
      · subst hk; simp
      · simp [hk]
    rw [← e]; exact this
theorem mem_effs {n i : Nat} : i ∈ effs τ os n ↔ i < n ∧ ∃ o, os[i]? = some o ∧ effOp τ o = true := by
  unfold effs
  simp only [List.mem_filter, List.mem_range]
  constructor
  · rintro ⟨h1, h2⟩
    refine ⟨h1, ?_⟩
    cases ho : os[i]? with
    | none => simp [ho] at h2
    | some o => exact ⟨o, rfl, by simpa [ho] using h2⟩
  · rintro ⟨h1, o, ho, h2⟩
    exact ⟨h1, by simp [ho, h2]⟩
theorem restr_effs {n j : Nat} {o : Oper} (hj : j < n) (ho : os[j]? = some o) (he : effOp τ o = true) : restr (effs τ os n) env j = env j := by
  unfold restr
  rw [if_pos (mem_effs.2 ⟨hj, o, ho, he⟩)]
end
structure News (os : List Oper) (env : Nat → Value) (D : Nat → Bool) (w : World) : Prop where
  old : ∀ j, D j = true → newAt os j = true → ∃ g, blkOf (env j) = some g ∧ g < w.heap.size
  apart : ∀ j k, D j = true → D k = true → newAt os j = true → newAt os k = true → j ≠ k → blkOf (env j) ≠ blkOf (env k)
def J (C : Ctx) (os : List Oper) (t0 : Fr) (w0 : World) (lin : List Nat) (T : Nat × World → Nat × World → Prop) (A : AFG) (L : List Value → World → Prop) (ds : List Deferred) (D : Nat → Bool) (a : Act) (w : World) : Prop :=
  ∃ (env : Nat → Value) (n : Nat), News os env D w ∧ a.defers = ds ∧ a.tmps.size = t0.length ∧ (∀ t, t < t0.length → a.tmps.toList.getD t undef = slotAt C.τ os t0 env D t) ∧
    (∀ j o, D j = true → os[j]? = some o → effOp C.τ o = true → wtd C.τ os t0 env j = true → ∀ n' w', T (n, w) (n', w') → A j (env j) (n', w')) ∧
    T (0, w0) (n, w) ∧ NC C.X w0 w ∧ ∃ p s, lin = p ++ s ∧ p.length = n ∧ (∀ j ∈ p, D j = true) ∧ (∀ j ∈ s, D j = false) ∧ ∀ w', Grow w w' → L (p.map (lvl C.τ os t0 env)) w'
section
variable {C : Ctx} {l : Option Nat} {listed : List Nat} {os : List Oper} {t0 : Fr} {w0 : World} {T : Nat × World → Nat × World → Prop} {A : AFG} {L : List Value → World → Prop} {ds : List Deferred} {D : Nat → Bool} {a : Act} {w : World}
  {env : Nat → Value}
theorem wtd_of_gd (hf : FlowOK C.τ listed os t0.length) {i j : Nat} {o oj : Oper} (ho : os[i]? = some o) (hoj : os[j]? = some oj) (hw : wtd C.τ os t0 env i = true) (h : gdOf os j = none ∨ gdOf os j = o.guard) : wtd C.τ os t0 env j = true := by
  have hg : gdOf os j = oj.guard := by simp [gdOf, hoj]
  rw [wtd_eq hf hoj]
  rw [wtd_eq hf ho] at hw
  rw [hg] at h
  rcases h with h | h
  · rw [h]
  · rw [h]; exact hw
theorem opnd_val (hf : FlowOK C.τ listed os t0.length) (hD : Closed os D) {i : Nat} {o : Oper} (ho : os[i]? = some o) (hr : Ready os D i) (hi : D i = false)
    (hsl : ∀ t, t < t0.length → a.tmps.toList.getD t undef = slotAt C.τ os t0 env D t) {x : Operand} (hx : x ∈ opnds o.op)
    (hw : ∀ t, slotOf x = some t → ∀ j, lw os i t = some j → wtd C.τ os t0 env j = true) : a.eval x = ev (rf C.τ os t0 env i) x := by
  rw [eval_tmps]
  cases x with
  | const v => rfl
  | global g => rfl
  | func f => rfl
  | tmp t =>
    have hts : t ∈ slots o := List.mem_filterMap.2 ⟨.tmp t, hx, rfl⟩
    obtain ⟨htn, _⟩ := hf.slot i o t ho (.inl hts)
    show a.tmps.toList.getD t undef = (rf C.τ os t0 env i).getD t undef
    rw [hsl t htn, rf_get htn]
    unfold slotAt
    rw [slot_ready hf hD ho hr hi (.inl hts)]
    cases hl : lw os i t with
    | none => rfl
    | some j => simp only []; rw [if_pos (hw t rfl j hl)]
theorem pv_ready (hf : FlowOK C.τ listed os t0.length) (hD : Closed os D) {i : Nat} {o : Oper} (ho : os[i]? = some o) (hr : Ready os D i) (hi : D i = false)
    (hsl : ∀ t, t < t0.length → a.tmps.toList.getD t undef = slotAt C.τ os t0 env D t) (hw : wtd C.τ os t0 env i = true) :
    pv C.τ o.op a.eval = pv C.τ o.op (ev (rf C.τ os t0 env i)) ∧ (pureOp C.τ o.op = false → ∀ x ∈ opnds o.op, a.eval x = ev (rf C.τ os t0 env i) x) := by
  have hd := hf.data i o ho
  have hlt := lt_len ho
  have get : ∀ j, j < i → ∃ oj, os[j]? = some oj := fun j hj => ⟨os[j]'(by omega), List.getElem?_eq_getElem _⟩
  by_cases hp : ∃ c x y, o.op = .pick c x y
  · obtain ⟨c, x, y, hop⟩ := hp
    rw [hop] at hd ⊢
    simp only at hd
    refine ⟨?_, by simp [pureOp]⟩
    have hc : a.eval c = ev (rf C.τ os t0 env i) c := opnd_val hf hD ho hr hi hsl (by rw [hop]; simp [opnds]) (fun t ht j hj => by
      obtain ⟨oj, hoj⟩ := get j (lw_spec hj).1
      exact wtd_of_gd hf ho hoj hw (hd.1 t ht j hj))
    simp only [pv, hc]
    -- the arm that is taken
    have arm : ∀ (z : Operand) (b : Bool), z ∈ opnds o.op → (∀ t, slotOf z = some t → ∀ j, lw os i t = some j → gdOf os j = none ∨ gdOf os j = o.guard ∨ ∃ c' jc, slotOf c = some c' ∧ lw os i c' = some jc ∧ gdOf os j = some (jc, b)) →
        ev (rf C.τ os t0 env i) c = .bool b → a.eval z = ev (rf C.τ os t0 env i) z := by
      intro z b hz hzd hcb
      refine opnd_val hf hD ho hr hi hsl hz (fun t ht j hj => ?_)
      obtain ⟨oj, hoj⟩ := get j (lw_spec hj).1
      rcases hzd t ht j hj with h | h | ⟨c', jc, h1, h2, h3⟩
      · exact wtd_of_gd hf ho hoj hw (.inl h)
      · exact wtd_of_gd hf ho hoj hw (.inr h)
      · obtain ⟨ojc, hojc⟩ := get jc (lw_spec h2).1
        have hwc : wtd C.τ os t0 env jc = true := wtd_of_gd hf ho hojc hw (hd.1 c' h1 jc h2)
        have hct : c = .tmp c' := by cases c <;> simp_all [slotOf]
        subst hct
        have hsc : c' ∈ slots o := List.mem_filterMap.2 ⟨.tmp c', by rw [hop]; simp [opnds], rfl⟩
        have hv : val C.τ os t0 env jc = .bool b := by
          have := rf_get (τ := C.τ) (os := os) (env := env) (hf.slot i o c' ho (.inl hsc)).1 i
          rw [h2] at this
          simp only at this
          rw [← this]; exact hcb
        rw [wtd_eq hf hoj]
        have hgj : oj.guard = some (jc, b) := by rw [← h3]; simp [gdOf, hoj]
        rw [hgj]
        simp only [hwc, Bool.true_and]
        rw [isB_iff]; exact hv
    cases hcv : ev (rf C.τ os t0 env i) c with
    | bool b =>
      cases b with
      | true => rw [pickV, pickV]; simp only [if_true]; rw [arm x true (by rw [hop]; simp [opnds]) hd.2.1 hcv]
      | false => rw [pickV, pickV]; simp only [Bool.false_eq_true, if_false]; rw [arm y false (by rw [hop]; simp [opnds]) hd.2.2 hcv]
    | _ => rfl
  · have hd' : ∀ t ∈ slots o, ∀ j, lw os i t = some j → gdOf os j = none ∨ gdOf os j = o.guard := by
      revert hd
      split
      · rename_i c x y hop; exact absurd ⟨c, x, y, hop⟩ hp
      · exact id
    have hx : ∀ x ∈ opnds o.op, a.eval x = ev (rf C.τ os t0 env i) x := fun x hx => opnd_val hf hD ho hr hi hsl hx (fun t ht j hj => by
      obtain ⟨oj, hoj⟩ := get j (lw_spec hj).1
      exact wtd_of_gd hf ho hoj hw (hd' t (List.mem_filterMap.2 ⟨x, hx, ht⟩) j hj))
    exact ⟨pv_congr hx (hf.known i o ho).1, fun _ => hx⟩
theorem wanted_ready (hf : FlowOK C.τ listed os t0.length) (hD : Closed os D) {i : Nat} {o : Oper} (ho : os[i]? = some o) (hr : Ready os D i) (hi : D i = false) (hsz : a.tmps.size = t0.length)
    (hsl : ∀ t, t < t0.length → a.tmps.toList.getD t undef = slotAt C.τ os t0 env D t) : Region.wanted o (yielded os.toArray a.tmps) = wtd C.τ os t0 env i := by
  rw [wtd_eq hf ho]
  unfold Region.wanted
  cases hg : o.guard with
  | none => rfl
  | some g =>
    obtain ⟨j, b⟩ := g
    obtain ⟨h1, h2, d, h3, h4⟩ := hf.guard i o j b ho hg
    obtain ⟨hdn, _⟩ := hf.slot i o d ho (.inr (.inr ⟨j, b, hg, h3⟩))
    have hs := hsl d hdn
    unfold slotAt at hs
    rw [slot_ready hf hD ho hr hi (.inr (.inr ⟨j, b, hg, h3⟩)), h4] at hs
    simp only at hs ⊢
    have hget : a.tmps[d]? = some (a.tmps.toList.getD d undef) := by
      have : d < a.tmps.size := by omega
      simp [List.getD_eq_getElem?_getD, this]
    have hy : yielded os.toArray a.tmps j = match a.tmps.toList.getD d undef with | .bool b => some b | _ => none := by
      unfold yielded
      have : (os.toArray[j]?).bind (·.dst) = some d := by simpa [dstAt] using h3
      rw [this]
      simp only [Option.bind_some, hget]
      cases a.tmps.toList.getD d undef <;> rfl
    rw [hy, hs]
    cases hwj : wtd C.τ os t0 env j with
    | false => simp [undef]
    | true =>
      simp only [if_true, Bool.true_and]
      cases val C.τ os t0 env j <;> simp [isB]
end
end Go.Vc
namespace Go.Vc
open Go
def plusD (D : Nat → Bool) (i : Nat) : Nat → Bool := fun k => if k = i then true else D k
section
variable {C : Ctx} {l : Option Nat} {listed : List Nat} {os : List Oper} {t0 : Fr} {w0 : World} {T : Nat × World → Nat × World → Prop} {A : AFG} {L : List Value → World → Prop} {ds : List Deferred} {D : Nat → Bool} {a : Act} {w : World}
  {env env' : Nat → Value}
theorem closed_plus (hD : Closed os D) {i : Nat} (hr : Ready os D i) : Closed os (plusD D i) := by
  intro k o hk ho e he hb
  unfold plusD at hk ⊢
  split
  · rfl
  · split at hk
    · rename_i h1 h2; subst h2; exact hr o ho e he hb
    · exact hD k o hk ho e he hb
theorem lwD_plus {i t : Nat} (hd : dstAt os i ≠ some t) : ∀ n, lwD os (plusD D i) n t = lwD os D n t := by
  intro n
  induction n with
  | zero => rfl
  | succ n ih =>
    unfold lwD
    rw [ih]
    by_cases e : n = i
    · subst e; simp [hd]
    · simp [plusD, e]
theorem lwD_plus_at {i t : Nat} (hd : dstAt os i = some t) (h2 : ∀ j, i < j → dstAt os j = some t → D j = false) : ∀ n, i < n → lwD os (plusD D i) n t = some i := by
  intro n
  induction n with
  | zero => intro h; omega
  | succ n ih =>
    intro h
    unfold lwD
    by_cases e : n = i
    · subst e; simp [plusD, hd]
    · have hn : i < n := by omega
      rw [if_neg (fun x => by have := h2 n hn x.2; simp [plusD, e, this] at x)]
      exact ih hn
theorem lwD_mem {t : Nat} : ∀ {n j : Nat}, lwD os D n t = some j → j < n ∧ D j = true ∧ dstAt os j = some t
  | 0, j, h => by simp [lwD] at h
  | n + 1, j, h => by
    unfold lwD at h
    split at h
    · rename_i e; simp only [Option.some.injEq] at h; subst h; exact ⟨by omega, e.1, e.2⟩
    · obtain ⟨h1, h2, h3⟩ := lwD_mem h; exact ⟨by omega, h2, h3⟩
theorem put_act_get (a : Act) (d : Option Tmp) (v : Value) (s : Nat) (hs : s < a.tmps.size) : (a.put d v).tmps.toList.getD s undef = if d = some s then v else a.tmps.toList.getD s undef := by
  cases d with
  | none => simp [Act.put]
  | some d =>
    simp only [Act.put, Array.toList_setIfInBounds, List.getD_eq_getElem?_getD, List.getElem?_set, Option.some.injEq]
    by_cases e : d = s
    · subst e; simp [hs]
    · simp [e]
theorem put_act_size (a : Act) (d : Option Tmp) (v : Value) : (a.put d v).tmps.size = a.tmps.size := by cases d <;> simp [Act.put]
theorem put_act_defers (a : Act) (d : Option Tmp) (v : Value) : (a.put d v).defers = a.defers := by cases d <;> simp [Act.put]
theorem slots_plus (hf : FlowOK C.τ listed os t0.length) (hD : Closed os D) {i : Nat} {o : Oper} (ho : os[i]? = some o) (hi : D i = false) (hsz : a.tmps.size = t0.length)
    (hsl : ∀ t, t < t0.length → a.tmps.toList.getD t undef = slotAt C.τ os t0 env D t) (heq : ∀ j, D j = true → env j = env' j) {v : Value} (hv : v = if wtd C.τ os t0 env' i then val C.τ os t0 env' i else undef) :
    ∀ t, t < t0.length → (a.put o.dst v).tmps.toList.getD t undef = slotAt C.τ os t0 env' (plusD D i) t := by
  intro t ht
  rw [put_act_get _ _ _ _ (by omega)]
  have hdi : dstAt os i = o.dst := by simp [dstAt, ho]
  by_cases hd : o.dst = some t
  · rw [if_pos hd]
    obtain ⟨_, hs⟩ := hf.slot i o t ho (.inr (.inl hd))
    unfold slotAt
    rw [lwD_plus_at (by rw [hdi]; exact hd) (fun j hj hdj => by
      cases hDj : D j with
      | false => rfl
      | true =>
        have := hs j hdj (by omega)
        rw [if_neg (by omega)] at this
        obtain ⟨oj, hoj, _⟩ := dstAt_some hdj
        have := reach_ready hf hD hoj (fun o' ho' => hD _ _ hDj ho') this
        rw [this] at hi; cases hi) _ (lt_len ho)]
    exact hv
  · rw [if_neg hd, hsl t ht]
    unfold slotAt
    rw [lwD_plus (by rw [hdi]; exact hd)]
    cases hl : lwD os D os.length t with
    | none => rfl
    | some j =>
      obtain ⟨h1, h2, _⟩ := lwD_mem hl
      simp only []
      rw [wtd_indep hf hD heq j (.inl h2) h1, val_indep hf hD heq j (.inl h2) h1 (.inl h2)]
theorem lins_sorted (os : List Oper) (n : Nat) : (lins listed os n).Pairwise (· < ·) := List.Pairwise.filter _ List.pairwise_lt_range
theorem mem_lins {n i : Nat} (h : i ∈ lins listed os n) : i < n ∧ ∃ o, os[i]? = some o := by
  unfold lins at h
  simp only [List.mem_filter, List.mem_range] at h
  refine ⟨h.1, ?_⟩
  cases ho : os[i]? with
  | none => simp [ho] at h
  | some o => exact ⟨o, rfl⟩
theorem lin_head (hf : FlowOK C.τ listed os t0.length) (hD : Closed os D) {i : Nat} {o : Oper} (ho : os[i]? = some o) (hr : Ready os D i) (hi : D i = false) {p s : List Nat} (hps : lins listed os os.length = p ++ s)
    (hp : ∀ j ∈ p, D j = true) (hs : ∀ j ∈ s, D j = false) (hm : i ∈ lins listed os os.length) : ∃ s', s = i :: s' := by
  rw [hps] at hm
  have his : i ∈ s := by
    rcases List.mem_append.1 hm with h | h
    · rw [hp i h] at hi; cases hi
    · exact h
  obtain ⟨s1, s2, rfl⟩ := List.append_of_mem his
  rcases List.eq_nil_or_concat s1 with h | ⟨q, y, h⟩
  · subst h; exact ⟨s2, rfl⟩
  · exfalso
    rw [List.concat_eq_append] at h
    subst h
    have := hf.chain (p ++ q) y i s2 (by rw [hps]; simp)
    have hDy := reach_ready hf hD ho hr this
    rw [hs y (by simp)] at hDy; cases hDy
theorem mem_oblOps {i : Nat} {o : Oper} (ho : os[i]? = some o) (hm : moveOp o.op = false) : i ∈ oblOps os := by
  unfold oblOps
  simp only [List.mem_filter, List.mem_range]
  exact ⟨lt_len ho, by simp [ho, hm]⟩
theorem newAt_eff {τ : TypeId → Ty} {j : Nat} (h : newAt os j = true) : ∃ o, os[j]? = some o ∧ newOp o.op = true ∧ o.guard = none ∧ effOp τ o = true := by
  unfold newAt at h
  cases ho : os[j]? with
  | none => simp [ho] at h
  | some o =>
    simp only [ho, Bool.and_eq_true, Option.isNone_iff_eq_none] at h
    refine ⟨o, rfl, h.1, h.2, ?_⟩
    have hn := h.1
    unfold effOp
    cases hop : o.op <;> simp [newOp, hop] at hn <;> simp [moveOp, pureOp]
theorem new_told {i : Nat} {o : Oper} {ty : TypeId} {ρ : Operand → Value} {k : Value → World → Prop} (ho : os[i]? = some o) (h : effP C o.op ty ρ w k) :
    effP C o.op ty ρ w fun v w' => k v w' ∧ (newAt os i = true → ∃ g, blkOf v = some g ∧ w.heap.size ≤ g ∧ g < w'.heap.size) := by
  cases hn : newAt os i with
  | false => exact effP_mono h fun v w' h => ⟨h, fun h => by cases h⟩
  | true =>
    obtain ⟨o', ho', hn', _, _⟩ := newAt_eff (τ := C.τ) hn
    rw [ho] at ho'; cases ho'
    exact effP_mono (effP_new h hn') fun v w' h => ⟨h.1, fun _ => h.2⟩
theorem News.same {i : Nat} {w' : World} (h : News os env D w) (hi : newAt os i = false) (heq : ∀ j, D j = true → env j = env' j) (hD : D i = false) (hw : w.heap.size ≤ w'.heap.size) : News os env' (plusD D i) w' := by
  have hd : ∀ j, plusD D i j = true → newAt os j = true → D j = true := by
    intro j hj hn
    by_cases e : j = i
    · subst e; rw [hi] at hn; cases hn
    · simpa [plusD, e] using hj
  refine ⟨fun j hj hn => ?_, fun j k hj hk hnj hnk hne => ?_⟩
  · obtain ⟨g, h1, h2⟩ := h.old j (hd j hj hn) hn
    exact ⟨g, by rw [← heq j (hd j hj hn)]; exact h1, Nat.lt_of_lt_of_le h2 hw⟩
  · rw [← heq j (hd j hj hnj), ← heq k (hd k hk hnk)]
    exact h.apart j k (hd j hj hnj) (hd k hk hnk) hnj hnk hne
theorem News.new {i : Nat} {w' : World} {v : Value} (h : News os env D w) (hD : D i = false) (hw : w.heap.size ≤ w'.heap.size) (hv : newAt os i = true → ∃ g, blkOf v = some g ∧ w.heap.size ≤ g ∧ g < w'.heap.size) : News os (upd env i v) (plusD D i) w' := by
  have old : ∀ j, j ≠ i → plusD D i j = true → D j = true := fun j hne hj => by simpa [plusD, hne] using hj
  refine ⟨fun j hj hn => ?_, fun j k hj hk hnj hnk hne => ?_⟩
  · by_cases e : j = i
    · subst e
      obtain ⟨g, h1, _, h3⟩ := hv hn
      exact ⟨g, by simpa [upd] using h1, h3⟩
    · obtain ⟨g, h1, h2⟩ := h.old j (old j e hj) hn
      exact ⟨g, by simpa [upd, e] using h1, Nat.lt_of_lt_of_le h2 hw⟩
  · by_cases e : j = i
    · subst e
      obtain ⟨g, h1, h2, _⟩ := hv hnj
      obtain ⟨g', h3, h4⟩ := h.old k (old k (Ne.symm hne) hk) hnk
      have e1 : upd env j v j = v := by simp [upd]
      have e2 : upd env j v k = env k := by simp [upd, Ne.symm hne]
      rw [e1, e2, h1, h3]
      intro e; cases e; omega
    · by_cases e' : k = i
      · subst e'
        obtain ⟨g, h1, h2, _⟩ := hv hnk
        obtain ⟨g', h3, h4⟩ := h.old j (old j e hj) hnj
        have e1 : upd env k v k = v := by simp [upd]
        have e2 : upd env k v j = env j := by simp [upd, e]
        rw [e1, e2, h1, h3]
        intro e; cases e; omega
      · have e1 : upd env i v j = env j := by simp [upd, e]
        have e2 : upd env i v k = env k := by simp [upd, e']
        rw [e1, e2]
        exact h.apart j k (old j e hj) (old k e' hk) hnj hnk hne
theorem flow_step {Q : Exit → Act → World → Prop} {K : Act → World → Prop} (hC : C.OK) (hf : FlowOK C.τ listed os t0.length) (hG : ∀ n a b, Grow a b → T (n, a) (n, b)) (hT : ∀ a b c, T a b → T b c → T a c)
    (hobl : ∀ i ∈ oblOps os, oblG C os t0 w0 (masks os []) (lins listed os os.length) T A L i) (hJ : J C os t0 w0 (lins listed os os.length) T A L ds D a w) (hD : Closed os D) {i : Nat} {o : Oper} (ho : os[i]? = some o)
    (hr : Ready os D i) (hi : D i = false) (hK : ∀ a' w', J C os t0 w0 (lins listed os os.length) T A L ds (plusD D i) a' w' → K a' w') : wpOpIn (FF l) 0 C.P os.toArray Q i K a w := by
  obtain ⟨env, n, hnews, hds, hsz, hsl, hA, hTw, hN, p, s, hps, hpn, hp, hs, hL⟩ := hJ
  have hlt := lt_len ho
  have hip : i ∉ p := fun h => by rw [hp i h] at hi; cases hi
  unfold wpOpIn
  have ho' : os.toArray[i]? = some o := by simpa using ho
  simp only [ho']
  have hw := wanted_ready hf hD ho hr hi hsz hsl
  cases hwi : wtd C.τ os t0 env i with
  | false =>
    rw [hwi] at hw
    rw [if_neg (by rw [hw]; simp)]
    have hni : newAt os i = false := by
      cases hn : newAt os i with
      | false => rfl
      | true =>
        obtain ⟨o', ho', _, hg', _⟩ := newAt_eff (τ := C.τ) hn
        rw [ho] at ho'; cases ho'
        rw [wtd_eq hf ho, hg'] at hwi; cases hwi
    refine ⟨fun _ _ => trivial, hK _ _ ⟨env, n, hnews.same hni (fun _ _ => rfl) hi (Nat.le_refl _), by rw [put_act_defers]; exact hds, by rw [put_act_size]; exact hsz, ?_, ?_, hTw, hN, p, s, hps, hpn, ?_, ?_, hL⟩⟩
    · exact slots_plus hf hD ho hi hsz hsl (fun _ _ => rfl) (by rw [hwi]; rfl)
    · intro j oj hj hoj he hwj
      by_cases e : j = i
      · subst e; rw [hwi] at hwj; cases hwj
      · exact hA j oj (by simpa [plusD, e] using hj) hoj he hwj
    · intro j hj; unfold plusD; split; rfl; exact hp j hj
    · intro j hj
      have hne : j ≠ i := by
        intro e; subst e
        have hm : j ∈ lins listed os os.length := by rw [hps]; exact List.mem_append_right _ hj
        have := (hf.lin j o hm ho).1
        rw [wtd_eq hf ho, this] at hwi; cases hwi
      unfold plusD; rw [if_neg hne]; exact hs j hj
  | true =>
    rw [hwi] at hw
    rw [if_pos hw]
    obtain ⟨hpv, heff⟩ := pv_ready hf hD ho hr hi hsl hwi
    -- where the operation only has a value
    have pureCase : ∀ v, pv C.τ o.op a.eval = some v → v = val C.τ os t0 env i → effOp C.τ o = false → i ∉ lins listed os os.length → o.wpIn (FF l) 0 C.P a w K Q := by
      intro v hv hval hne hnl
      have h1 := pure_sound (l := l) (Q := Q) hC (o := o) (w := w) (k := fun v' w' => v' = v ∧ w' = w) hv (pv_noDefer hv) ⟨rfl, rfl⟩
      refine Oper.wpIn_mono ?_ h1
      rintro a' w' ⟨v', rfl, _, rfl, rfl⟩
      have hni : newAt os i = false := by
        cases hn : newAt os i with
        | false => rfl
        | true =>
          obtain ⟨o', ho', _, _, he'⟩ := newAt_eff (τ := C.τ) hn
          rw [ho] at ho'; cases ho'
          rw [hne] at he'; cases he'
      refine hK _ _ ⟨env, n, hnews.same hni (fun _ _ => rfl) hi (Nat.le_refl _), by rw [put_act_defers]; exact hds, by rw [put_act_size]; exact hsz, ?_, ?_, hTw, hN, p, s, hps, hpn, ?_, ?_, hL⟩
      · exact slots_plus hf hD ho hi hsz hsl (fun _ _ => rfl) (by rw [hwi, if_pos rfl]; exact hval)
      · intro j oj hj hoj he hwj
        by_cases e : j = i
        · subst e; rw [ho] at hoj; cases hoj; rw [hne] at he; cases he
        · exact hA j oj (by simpa [plusD, e] using hj) hoj he hwj
      · intro j hj; unfold plusD; split; rfl; exact hp j hj
      · intro j hj
        have hnj : j ≠ i := by
          intro e; subst e
          exact hnl (by rw [hps]; exact List.mem_append_right _ hj)
        unfold plusD; rw [if_neg hnj]; exact hs j hj
    cases hmv : moveOp o.op with
    | true =>
      have hnl : i ∉ lins listed os os.length := fun hm => by have := (hf.lin i o hm ho).2.1; rw [hmv] at this; cases this
      have hex : ∃ x, (o.op = .move x ∨ o.op = .assign x) := by
        cases hop : o.op <;> simp [moveOp, hop] at hmv <;> first | exact ⟨_, .inl rfl⟩ | exact ⟨_, .inr rfl⟩
      obtain ⟨x, hx⟩ := hex
      have hv : pv C.τ o.op (ev (rf C.τ os t0 env i)) = some (val C.τ os t0 env i) := by
        unfold val; rw [ho]
        rcases hx with hx | hx <;> simp [hx, pv, opVal]
      exact pureCase _ (by rw [hpv]; exact hv) rfl (by simp [effOp, hmv]) hnl
    | false =>
      have hob := hobl i (mem_oblOps ho hmv)
      unfold oblG at hob
      rw [ho] at hob
      simp only [hmv] at hob
      have hroom : n ≤ room (masks os []) (lins listed os os.length) i := by
        unfold room
        rw [hps, List.takeWhile_append_of_pos (by
          intro c hc
          cases hr' : reach (masks os []) c i with
          | false => rfl
          | true =>
            exfalso
            have hm : c ∈ lins listed os os.length := by rw [hps]; exact List.mem_append_left _ hc
            obtain ⟨_, oc, hoc⟩ := mem_lins hm
            have := reach_ready hf hD hoc (fun o' ho' => hD _ _ (hp c hc) ho') hr'
            rw [this] at hi; cases hi), List.length_append]
        omega
      have hob := allV_spec env _ _ hob n w hroom hTw
      have hagree : ∀ j oj, j < i → os[j]? = some oj → effOp C.τ oj = true → restr (effs C.τ os i) env j = env j := fun j oj hj hoj he => restr_effs hj hoj he
      rw [rf_eff i hagree] at hob
      have hhyp : ∀ j ∈ (effs C.τ os i).filter (reach (masks os []) i), gImp C.τ os t0 (restr (effs C.τ os i) env) os.length j (A j (restr (effs C.τ os i) env j) (n, w)) := by
        intro j hj
        obtain ⟨h1, h2⟩ := List.mem_filter.1 hj
        obtain ⟨hji, oj, hoj, he⟩ := mem_effs.1 h1
        rw [gImp_iff, gB_eff hf i hagree _ _ (by omega), hagree j oj hji hoj he]
        intro hwj
        exact hA j oj (reach_ready hf hD ho hr h2) hoj he hwj n w (hG _ _ _ (Grow.refl w))
      have hdist : ∀ j ∈ ((effs C.τ os i).filter (reach (masks os []) i)).filter (newAt os), ∀ k ∈ ((effs C.τ os i).filter (reach (masks os []) i)).filter (newAt os), j ≠ k → blkOf (restr (effs C.τ os i) env j) ≠ blkOf (restr (effs C.τ os i) env k) := by
        intro j hj k hk hne
        obtain ⟨h1, h2⟩ := List.mem_filter.1 hj
        obtain ⟨h3, h4⟩ := List.mem_filter.1 h1
        obtain ⟨k1, k2⟩ := List.mem_filter.1 hk
        obtain ⟨k3, k4⟩ := List.mem_filter.1 k1
        obtain ⟨hji, oj, hoj, he⟩ := mem_effs.1 h3
        obtain ⟨hki, ok, hok, hek⟩ := mem_effs.1 k3
        rw [hagree j oj hji hoj he, hagree k ok hki hok hek]
        exact hnews.apart j k (reach_ready hf hD ho hr h4) (reach_ready hf hD ho hr k4) h2 k2 hne
      have hnod : (((effs C.τ os i).filter (reach (masks os []) i)).filter (newAt os)).Nodup := ((List.nodup_range.filter _).filter _).filter _
      cases hpo : pureOp C.τ o.op with
      | true =>
        have hnl : i ∉ lins listed os os.length := fun hm => by have := (hf.lin i o hm ho).2.2; rw [hpo] at this; cases this
        have hcont : (lins listed os os.length).contains i = false := by simpa using hnl
        simp only [hcont, hpo] at hob
        have hob := dist_of hob hnod hdist
        rw [hyps_iff] at hob
        have hob := hob hhyp
        rw [gImp_iff, gB_eff hf i hagree _ _ (Nat.le_refl _)] at hob
        obtain ⟨v, hv⟩ := hob hwi
        refine pureCase v (by rw [hpv]; exact hv) ?_ (by simp [effOp, hpo]) hnl
        unfold val; rw [ho]
        show v = opVal C.τ o (env i) (ev (rf C.τ os t0 env i))
        unfold opVal
        split
        · rename_i x hx; rw [hx] at hmv; simp [moveOp] at hmv
        · rename_i x hx; rw [hx] at hmv; simp [moveOp] at hmv
        · rw [hpo]; simp [hv]
      | false =>
        have heo : effOp C.τ o = true := by simp [effOp, hmv, hpo]
        have hcg : ∀ k, effP C o.op o.type (ev (rf C.τ os t0 env i)) w k = effP C o.op o.type a.eval w k := fun k => effP_congr (fun x hx => (heff hpo x hx).symm) (hf.known i o ho).1
        have hval : ∀ v, val C.τ os t0 (upd env i v) i = v := by
          intro v
          unfold val; rw [ho]
          show opVal C.τ o (upd env i v i) (ev (rf C.τ os t0 (upd env i v) i)) = v
          unfold opVal
          split
          · rename_i x hx; rw [hx] at hmv; simp [moveOp] at hmv
          · rename_i x hx; rw [hx] at hmv; simp [moveOp] at hmv
          · rw [hpo]; simp [upd]
        have hen : ∀ v j, D j = true → env j = upd env i v j := by
          intro v j hj
          have : j ≠ i := by intro e; subst e; rw [hj] at hi; cases hi
          simp [upd, this]
        have hwv : ∀ v, wtd C.τ os t0 (upd env i v) i = true := fun v => by rw [← wtd_indep hf hD (hen v) i (.inr hr) hlt]; exact hwi
        have hAs : ∀ v n' w', T (n, w) (n', w') → (∀ m w'', T (n', w') (m, w'') → A i v (m, w'')) → ∀ j oj, plusD D i j = true → os[j]? = some oj → effOp C.τ oj = true → wtd C.τ os t0 (upd env i v) j = true → ∀ m w'', T (n', w') (m, w'') → A j (upd env i v j) (m, w'') := by
          intro v n' w' hTT hAi j oj hj hoj he hwj m w'' hw''
          by_cases e : j = i
          · subst e; simpa [upd] using hAi m w'' hw''
          · have hDj : D j = true := by simpa [plusD, e] using hj
            have : upd env i v j = env j := by simp [upd, e]
            rw [this]
            rw [← wtd_indep hf hD (hen v) j (.inl hDj) (lt_len hoj)] at hwj
            exact hA j oj hDj hoj he hwj m w'' (hT _ _ _ hTT hw'')
        cases hcont : (lins listed os os.length).contains i with
        | true =>
          have hm : i ∈ lins listed os os.length := by simpa using hcont
          obtain ⟨s', rfl⟩ := lin_head hf hD ho hr hi hps hp hs hm
          have htw : (lins listed os os.length).takeWhile (· != i) = p := by
            rw [hps, List.takeWhile_append_of_pos (by intro j hj; simp; intro e; subst e; exact hip hj)]
            simp
          have hpi : ∀ j ∈ p, j < i := by
            intro j hj
            have hso := lins_sorted (listed := listed) os os.length
            rw [hps] at hso
            exact (List.pairwise_append.1 hso).2.2 j hj i (by simp)
          have hpe : p.map (lvl C.τ os t0 (restr (effs C.τ os i) env)) = p.map (lvl C.τ os t0 env) := List.map_congr_left fun j hj => by
            have hmj : j ∈ lins listed os os.length := by rw [hps]; exact List.mem_append_left _ hj
            obtain ⟨_, oj, hoj⟩ := mem_lins hmj
            rcases lvl_eff (τ := C.τ) (t0 := t0) (hpi j hj) hagree (fun o' ho' => by
              have := hf.lin j o' hmj ho'
              simp [effOp, this.2.1, this.2.2]) with h | h
            · exact h
            · rw [hoj] at h; cases h
          simp only [hcont] at hob
          rw [htw, hpe] at hob
          have hob := dist_of (hob hpn.symm (hL w (Grow.refl w))) hnod hdist
          rw [hyps_iff] at hob
          have hob := hob hhyp
          rw [hcg] at hob
          have hob' := new_told ho hob
          refine Oper.wpIn_mono ?_ (effP_sound (l := l) (Q := Q) hC hob')
          rintro a' w' ⟨v, rfl, hNC, ⟨hTT, hAi, hLi⟩, hnv⟩
          have hpu : p.map (lvl C.τ os t0 (upd env i v)) = p.map (lvl C.τ os t0 env) := List.map_congr_left fun j hj => (lvl_indep hf hD (hen v) (hp j hj)).symm
          refine hK _ _ ⟨upd env i v, n + 1, hnews.new hi hNC.size hnv, by rw [put_act_defers]; exact hds, by rw [put_act_size]; exact hsz, ?_, hAs v (n + 1) w' hTT hAi, hT _ _ _ hTw hTT, hN.trans hNC, p ++ [i], s', by rw [hps]; simp, by simp [hpn], ?_, ?_, ?_⟩
          · exact slots_plus hf hD ho hi hsz hsl (hen v) (by rw [hwv, if_pos rfl, hval])
          · intro j hj
            unfold plusD; split; rfl
            rename_i hne
            exact hp j (by simpa [hne] using hj)
          · intro j hj
            have hne : j ≠ i := by
              intro e; subst e
              have hso := lins_sorted (listed := listed) os os.length
              rw [hps] at hso
              have := (List.pairwise_append.1 hso).2.1
              have := (List.pairwise_cons.1 this).1 j hj
              omega
            unfold plusD; rw [if_neg hne]; exact hs j (by simp [hj])
          · intro w'' hw''
            have := hLi w'' hw''
            have hli : lvl C.τ os t0 (upd env i v) i = lvOp o v (ev (rf C.τ os t0 env i)) := by
              unfold lvl
              rw [ho]
              exact lvOp_congr (by simp [upd]) fun x hx => (ev_indep hf hD (hen v) ho (.inr hr) hx).symm
            rw [List.map_append, hpu, List.map_cons, List.map_nil, hli]
            exact this
        | false =>
          simp only [hcont, hpo] at hob
          have hob := dist_of hob hnod hdist
          rw [hyps_iff] at hob
          have hob := hob hhyp
          rw [gImp_iff, gB_eff hf i hagree _ _ (Nat.le_refl _)] at hob
          have hob := hob hwi
          rw [hcg] at hob
          have hob' := new_told ho hob
          refine Oper.wpIn_mono ?_ (effP_sound (l := l) (Q := Q) hC hob')
          rintro a' w' ⟨v, rfl, hNC, ⟨hGr, hAi⟩, hnv⟩
          have hnl : i ∉ lins listed os os.length := by simpa using hcont
          have hpu : p.map (lvl C.τ os t0 (upd env i v)) = p.map (lvl C.τ os t0 env) := List.map_congr_left fun j hj => (lvl_indep hf hD (hen v) (hp j hj)).symm
          refine hK _ _ ⟨upd env i v, n, hnews.new hi hNC.size hnv, by rw [put_act_defers]; exact hds, by rw [put_act_size]; exact hsz, ?_, hAs v n w' (hG _ _ _ hGr) hAi, hT _ _ _ hTw (hG _ _ _ hGr), hN.trans hNC, p, s, hps, hpn, ?_, ?_, ?_⟩
          · exact slots_plus hf hD ho hi hsz hsl (hen v) (by rw [hwv, if_pos rfl, hval])
          · intro j hj; unfold plusD; split; rfl; exact hp j hj
          · intro j hj
            have hne : j ≠ i := by
              intro e; subst e
              exact hnl (by rw [hps]; exact List.mem_append_right _ hj)
            unfold plusD; rw [if_neg hne]; exact hs j hj
          · intro w'' hw''
            rw [hpu]; exact hL w'' (hGr.trans hw'')
end
end Go.Vc
namespace Go.Vc
open Go
theorem exAG_spec : ∀ (js : List Nat) (f : AFG → Prop), exAG js f → ∃ A, f A
  | [], _, h => ⟨_, h⟩
  | _ :: r, f, h => by
    obtain ⟨B, h⟩ := h
    obtain ⟨A, h⟩ := exAG_spec r _ h
    exact ⟨_, h⟩
theorem exA_spec : ∀ (js : List Nat) (f : AF → Prop), exA js f → ∃ A, f A
  | [], _, h => ⟨_, h⟩
  | _ :: r, f, h => by
    obtain ⟨B, h⟩ := h
    obtain ⟨A, h⟩ := exA_spec r _ h
    exact ⟨_, h⟩
theorem allV_mono : ∀ (js : List Nat) (f g : (Nat → Value) → Prop), allV js f → (∀ env, f env → g env) → allV js g
  | [], _, _, h, hg => hg _ h
  | j :: r, _, _, h, hg => fun v => allV_mono r _ _ (h v) fun env he => hg _ he
theorem distTo_mono {env : Nat → Value} {j : Nat} : ∀ {js : List Nat} {p q : Prop}, distTo env j js p → (p → q) → distTo env j js q
  | [], _, _, h, hq => hq h
  | _ :: _, _, _, h, hq => fun hne => distTo_mono (h hne) hq
theorem dist_mono {env : Nat → Value} : ∀ {js : List Nat} {p q : Prop}, dist env js p → (p → q) → dist env js q
  | [], _, _, h, hq => hq h
  | j :: r, p, q, h, hq => by
    show distTo env j r (dist env r q)
    exact distTo_mono h fun h => dist_mono h hq
theorem andAll_spec (f : Nat → Prop) (p : Prop) : ∀ l, andAll l f p → (∀ i ∈ l, f i) ∧ p
  | [], h => ⟨by simp, h⟩
  | i :: r, h => by
    obtain ⟨h1, h2⟩ := h
    obtain ⟨h3, h4⟩ := andAll_spec f p r h2
    exact ⟨by simp [h1]; exact h3, h4⟩
section
variable {C : Ctx} {l : Option Nat} {listed : List Nat} {os : List Oper} {t0 : Fr} {w0 : World} {T : Nat × World → Nat × World → Prop} {A : AFG} {L : List Value → World → Prop} {ds : List Deferred} {D : Nat → Bool} {a : Act} {w : World}
  {env : Nat → Value} {Q : Exit → Act → World → Prop} {k : Fr → World → Prop}
theorem fin_length (h : Nat → Value) : ∀ n (t : Fr), (fin os h n t).length = t.length
  | 0, _ => rfl
  | n + 1, t => by
    unfold fin
    split
    · exact fin_length h n t
    · split
      · exact fin_length h n t
      · rw [put_length]; exact fin_length h n t
theorem fin_get (h : Nat → Value) (x : Value) (s : Nat) : ∀ n (t : Fr), s < t.length → (∀ i o, i < n → os[i]? = some o → o.guard.isSome = true → o.dst = some s → h i = x) →
    (fin os h n t).getD s undef = x ∨ ((∀ i o, i < n → os[i]? = some o → o.guard.isSome = true → o.dst ≠ some s) ∧ (fin os h n t).getD s undef = t.getD s undef)
  | 0, _, _, _ => .inr ⟨fun i o hi => by omega, rfl⟩
  | n + 1, t, hs, hh => by
    have ih := fin_get h x s n t hs (fun i o hi => hh i o (by omega))
    unfold fin
    cases ho : os[n]? with
    | none =>
      simp only []
      rcases ih with ih | ⟨h1, h2⟩
      · exact .inl ih
      · refine .inr ⟨fun i o hi hio => ?_, h2⟩
        by_cases e : i = n
        · subst e; rw [ho] at hio; cases hio
        · exact h1 i o (by omega) hio
    | some o =>
      simp only []
      cases hg : o.guard with
      | none =>
        simp only []
        rcases ih with ih | ⟨h1, h2⟩
        · exact .inl ih
        · refine .inr ⟨fun i o' hi hio hgo => ?_, h2⟩
          by_cases e : i = n
          · subst e; rw [ho] at hio; cases hio; rw [hg] at hgo; cases hgo
          · exact h1 i o' (by omega) hio hgo
      | some g =>
        simp only []
        rw [put_get _ _ _ _ (by rw [fin_length]; exact hs)]
        by_cases e : o.dst = some s
        · rw [if_pos e]; exact .inl (hh n o (by omega) ho (by simp [hg]) e)
        · rw [if_neg e]
          rcases ih with ih | ⟨h1, h2⟩
          · exact .inl ih
          · refine .inr ⟨fun i o' hi hio hgo => ?_, h2⟩
            by_cases e' : i = n
            · subst e'; rw [ho] at hio; cases hio; exact e
            · exact h1 i o' (by omega) hio hgo
theorem flow_end (hf : FlowOK C.τ listed os t0.length) (hG : ∀ n a b, Grow a b → T (n, a) (n, b)) (hJ : J C os t0 w0 (lins listed os os.length) T A L ds D a w) (hall : ∀ i, i < os.length → D i = true)
    (hfin : flowEndG C listed os k t0 w0 T A L)
    (hQ : ∀ t' w', t'.length = t0.length → (∀ i, i ∉ os.filterMap (·.dst) → t'[i]? = t0[i]?) → NC C.X w0 w' → k t' w' → Q .normal ⟨t'.toArray, ds⟩ w') : Q .normal a w := by
  obtain ⟨env, n, hnews, hds, hsz, hsl, hA, hTw, hN, p, s, hps, hpn, hp, hs, hL⟩ := hJ
  have hsnil : s = [] := by
    cases s with
    | nil => rfl
    | cons i r =>
      have hm : i ∈ lins listed os os.length := by rw [hps]; simp
      have h1 := hall i (mem_lins hm).1
      have h2 := hs i (by simp)
      rw [h1] at h2; cases h2
  subst hsnil
  rw [List.append_nil] at hps
  let h : Nat → Value := fun i => match dstAt os i with | some d => a.tmps.toList.getD d undef | none => undef
  unfold flowEndG at hfin
  rw [← hpn, ← hps] at hTw
  have hsp := allV_spec env _ _ hfin h w hTw
  have hagree : ∀ j oj, j < os.length → os[j]? = some oj → effOp C.τ oj = true → restr (effs C.τ os os.length) env j = env j := fun j oj hj hoj he => restr_effs hj hoj he
  have hsp := dist_of hsp ((List.nodup_range.filter _).filter _) (by
    intro j hj k hk hne
    obtain ⟨h1, h2⟩ := List.mem_filter.1 hj
    obtain ⟨k1, k2⟩ := List.mem_filter.1 hk
    obtain ⟨hji, oj, hoj, he⟩ := mem_effs.1 h1
    obtain ⟨hki, ok, hok, hek⟩ := mem_effs.1 k1
    rw [hagree j oj hji hoj he, hagree k ok hki hok hek]
    exact hnews.apart j k (hall j hji) (hall k hki) h2 k2 hne)
  rw [rf_eff os.length hagree, hyps_iff] at hsp
  have hsp := hsp (by
    intro j hj
    obtain ⟨hjl, oj, hoj, he⟩ := mem_effs.1 hj
    rw [gImp_iff, gB_eff hf os.length hagree _ _ (by omega), hagree j oj hjl hoj he]
    intro hwj
    have := hA j oj (hall j hjl) hoj he hwj n w (hG _ _ _ (Grow.refl w))
    rw [hps, hpn]; exact this)
  have hk : k (fin os h os.length (rf C.τ os t0 env os.length)) w := by
    have hpe : p.map (lvl C.τ os t0 (restr (effs C.τ os os.length) env)) = p.map (lvl C.τ os t0 env) := List.map_congr_left fun j hj => by
        have hmj : j ∈ lins listed os os.length := by rw [hps]; exact hj
        obtain ⟨hjl, oj, hoj⟩ := mem_lins hmj
        rcases lvl_eff (τ := C.τ) (t0 := t0) hjl hagree (fun o' ho' => by
          have := hf.lin j o' hmj ho'
          simp [effOp, this.2.1, this.2.2]) with h | h
        · exact h
        · rw [hoj] at h; cases h
    refine hsp ?_
    rw [hps, hpe]
    exact hL w (Grow.refl w)
  have hlen : (fin os h os.length (rf C.τ os t0 env os.length)).length = t0.length := by rw [fin_length, rf_length]
  have hat : ∀ t, t < t0.length → a.tmps.toList.getD t undef = (fin os h os.length (rf C.τ os t0 env os.length)).getD t undef := by
    intro t ht
    rcases fin_get (os := os) h (a.tmps.toList.getD t undef) t os.length (rf C.τ os t0 env os.length) (by rw [rf_length]; exact ht) (by
      intro i o _ ho _ hd
      show (match dstAt os i with | some d => a.tmps.toList.getD d undef | none => undef) = _
      have : dstAt os i = some t := by simp [dstAt, ho, hd]
      rw [this]) with h1 | ⟨h1, h2⟩
    · rw [h1]
    · rw [h2, hsl t ht, rf_get ht]
      unfold slotAt
      have hlw : lwD os D os.length t = lw os os.length t := lwD_eq (fun j hj _ => hall j hj) (fun j hj hd => by
        obtain ⟨oj, hoj, _⟩ := dstAt_some hd
        have := lt_len hoj; omega) _ (Nat.le_refl _)
      rw [hlw]
      cases hl : lw os os.length t with
      | none => rfl
      | some j =>
        obtain ⟨hj1, hj2, _⟩ := lw_spec hl
        obtain ⟨oj, hoj, hdj⟩ := dstAt_some hj2
        have hgn : oj.guard = none := by
          cases hg : oj.guard with
          | none => rfl
          | some g => exact absurd hdj (h1 j oj hj1 hoj (by simp [hg]))
        simp only []
        rw [wtd_eq hf hoj, hgn]; rfl
  have ha : a = ⟨(fin os h os.length (rf C.τ os t0 env os.length)).toArray, ds⟩ := by
    obtain ⟨tm, df⟩ := a
    simp only at hds hsz hat
    subst hds
    have : tm = (fin os h os.length (rf C.τ os t0 env os.length)).toArray := by
      apply Array.ext'
      apply List.ext_getElem?
      intro n
      by_cases hn : n < t0.length
      · have := hat n hn
        have h1 : n < tm.size := by omega
        have h2 : n < (fin os h os.length (rf C.τ os t0 env os.length)).length := by omega
        rw [List.getD_eq_getElem?_getD, List.getD_eq_getElem?_getD] at this
        have e1 : tm.toList[n]? = some tm.toList[n] := List.getElem?_eq_getElem (by simpa using h1)
        have e2 := List.getElem?_eq_getElem h2
        rw [e1, e2] at this
        simp only [Option.getD_some] at this
        rw [e1, this]
        show _ = (fin os h os.length (rf C.τ os t0 env os.length))[n]?
        rw [e2]
      · rw [List.getElem?_eq_none (by simp; omega), List.getElem?_eq_none (by simp; omega)]
    rw [this]
  rw [ha]
  refine hQ _ w hlen ?_ hN hk
  intro i hi
  have hnd : ∀ j, dstAt os j ≠ some i := by
    intro j hj
    obtain ⟨oj, hoj, hd⟩ := dstAt_some hj
    exact hi (List.mem_filterMap.2 ⟨oj, List.mem_of_getElem? hoj, hd⟩)
  by_cases hlt : i < t0.length
  · have h1 := hat i hlt
    have h2 := hsl i hlt
    unfold slotAt at h2
    have hln : lwD os D os.length i = none := by
      cases hl : lwD os D os.length i with
      | none => rfl
      | some j => exact absurd (lwD_mem hl).2.2 (hnd j)
    rw [hln] at h2
    simp only at h2
    rw [h1, List.getD_eq_getElem?_getD, List.getD_eq_getElem?_getD] at h2
    have e1 := List.getElem?_eq_getElem (l := fin os h os.length (rf C.τ os t0 env os.length)) (i := i) (by rw [hlen]; exact hlt)
    have e2 := List.getElem?_eq_getElem hlt
    rw [e1, e2] at h2
    simp only [Option.getD_some] at h2
    rw [e1, e2, h2]
  · have hge : t0.length ≤ i := Nat.le_of_not_lt hlt
    have e1 : (fin os h os.length (rf C.τ os t0 env os.length))[i]? = none := List.getElem?_eq_none (by rw [hlen]; exact hge)
    have e2 : t0[i]? = none := List.getElem?_eq_none hge
    rw [e1, e2]
theorem J_start (hG : ∀ n a b, Grow a b → T (n, a) (n, b)) (hL : ∀ w, Grow w0 w → L [] w) (hw : Grow w0 w) : J C os t0 w0 (lins listed os os.length) T A L ds (fun _ => false) ⟨t0.toArray, ds⟩ w := by
  refine ⟨fun _ => undef, 0, ⟨fun _ h => (by cases h), fun _ _ h => (by cases h)⟩, rfl, by simp, ?_, ?_, hG _ _ _ hw, hw.nc, [], lins listed os os.length, rfl, rfl, by simp, by simp, ?_⟩
  · intro t ht
    unfold slotAt
    have : ∀ n, lwD os (fun _ => false) n t = none := by
      intro n
      induction n with
      | zero => rfl
      | succ n ih => unfold lwD; simp [ih]
    rw [this]
  · intro j o h; cases h
  · intro w' h'; exact hL w' (hw.trans h')
theorem flow_any (hC : C.OK) (hf : FlowOK C.τ listed os t0.length) (hG : ∀ n a b, Grow a b → T (n, a) (n, b)) (hT : ∀ a b c, T a b → T b c → T a c)
    (hobl : ∀ i ∈ oblOps os, oblG C os t0 w0 (masks os []) (lins listed os os.length) T A L i)
    (hend : ∀ D a w, J C os t0 w0 (lins listed os os.length) T A L ds D a w → (∀ i, i < os.length → D i = true) → Q .normal a w) :
    ∀ (fuel : Nat) (ls : Array Bool) (a : Act) (w : World), ls.size = os.length → ((List.range os.length).countP fun i => !ls.getD i true) ≤ fuel → Closed os (fun i => ls.getD i false) →
      J C os t0 w0 (lins listed os os.length) T A L ds (fun i => ls.getD i false) a w → wpAnyIn (FF l) 0 C.P .any os.toArray Q fuel ls a w := by
  have ready_nil : ∀ (ls : Array Bool) (a : Act) (w : World), ls.size = os.length → Closed os (fun i => ls.getD i false) → J C os t0 w0 (lins listed os os.length) T A L ds (fun i => ls.getD i false) a w →
      Region.ready .any os.toArray ls = [] → Q .normal a w := by
    intro ls a w hsz hcl hJ hnil
    refine hend _ a w hJ ?_
    intro i
    induction i using Nat.strongRecOn with
    | _ i ih =>
      intro hi
      cases hl : ls.getD i false with
      | true => rfl
      | false =>
        exfalso
        have hmem : i ∈ Region.ready .any os.toArray ls := by
          unfold Region.ready
          simp only [List.mem_filter, List.mem_range, List.size_toArray]
          refine ⟨hi, ?_⟩
          have hlt : ls.getD i true = false := by
            have : i < ls.size := by omega
            simp [Array.getD, this] at hl ⊢; exact hl
          have ho : os.toArray[i]? = some os[i] := by simp [hi]
          rw [hlt, ho]
          simp only [Bool.not_false, Option.map_some, Option.getD_some, Bool.true_and]
          rw [Array.all_eq_true_iff_forall_mem]
          intro e he
          cases hb : Region.binds .any e with
          | false => rfl
          | true =>
            have hon := hf.edge i os[i] (List.getElem?_eq_getElem hi) e (by simpa using he) hb
            simp only [Bool.not_true, Bool.false_or]
            exact ih e.on hon (by omega)
        rw [hnil] at hmem; cases hmem
  have ready_mem : ∀ (ls : Array Bool) (i : Nat), i ∈ Region.ready .any os.toArray ls → ∃ o, os[i]? = some o ∧ ls.getD i true = false ∧ Ready os (fun i => ls.getD i false) i := by
    intro ls i h
    unfold Region.ready at h
    simp only [List.mem_filter, List.mem_range, List.size_toArray, Bool.and_eq_true, Bool.not_eq_true'] at h
    obtain ⟨h1, h2, h3⟩ := h
    refine ⟨os[i], List.getElem?_eq_getElem h1, h2, ?_⟩
    intro o ho e he hb
    have ho' : os.toArray[i]? = some o := by simpa using ho
    rw [ho'] at h3
    simp only [Option.map_some, Option.getD_some] at h3
    rw [Array.all_eq_true_iff_forall_mem] at h3
    have := h3 e (by simpa using he)
    simpa [hb] using this
  intro fuel
  induction fuel with
  | zero =>
    intro ls a w hsz hc hcl hJ
    have hnil : Region.ready .any os.toArray ls = [] := by
      cases hr : Region.ready .any os.toArray ls with
      | nil => rfl
      | cons i r =>
        exfalso
        obtain ⟨o, ho, h1, _⟩ := ready_mem ls i (by rw [hr]; simp)
        have : 0 < (List.range os.length).countP fun i => !ls.getD i true := List.countP_pos_iff.2 ⟨i, List.mem_range.2 (lt_len ho), by simp [h1]⟩
        omega
    exact ⟨hnil, ready_nil ls a w hsz hcl hJ hnil⟩
  | succ fuel ih =>
    intro ls a w hsz hc hcl hJ
    refine ⟨ready_nil ls a w hsz hcl hJ, fun i hi => ?_⟩
    obtain ⟨o, ho, h1, h2⟩ := ready_mem ls i hi
    have hlt := lt_len ho
    have h1' : ls.getD i false = false := by
      have : i < ls.size := by omega
      simp [Array.getD, this] at h1 ⊢; exact h1
    refine flow_step hC hf hG hT hobl hJ hcl ho h2 h1' ?_
    intro a' w' hJ'
    have hset : (fun k => (ls.setIfInBounds i true).getD k false) = plusD (fun k => ls.getD k false) i := by
      funext k
      unfold plusD
      simp only [Array.getD_eq_getD_getElem?, Array.getElem?_setIfInBounds]
      by_cases e : i = k
      · subst e; simp [hsz, hlt]
      · have e' : ¬ k = i := fun h => e h.symm
        simp [e, e']
    refine ih _ a' w' (by simp [hsz]) ?_ (by rw [hset]; exact closed_plus hcl h2) (by rw [hset]; exact hJ')
    -- one less
    have hle : ((List.range os.length).countP fun k => !(ls.setIfInBounds i true).getD k true) + 1 ≤ (List.range os.length).countP fun k => !ls.getD k true := by
      have key : ∀ (m : List Nat), m.Nodup → i ∈ m → (m.countP fun k => !(ls.setIfInBounds i true).getD k true) + 1 ≤ m.countP fun k => !ls.getD k true := by
        intro m
        induction m with
        | nil => intro _ h; cases h
        | cons x r ihm =>
          intro hnd hm
          have hxr := List.nodup_cons.1 hnd
          have hsame : ∀ k, k ≠ i → (ls.setIfInBounds i true).getD k true = ls.getD k true := by
            intro k hk
            simp only [Array.getD_eq_getD_getElem?, Array.getElem?_setIfInBounds]
            have : ¬ i = k := fun h => hk h.symm
            simp [this]
          have hat : (ls.setIfInBounds i true).getD i true = true := by
            simp [Array.getD_eq_getD_getElem?, hsz, hlt]
          by_cases e : x = i
          · subst e
            rw [List.countP_cons, List.countP_cons, hat, h1]
            have : (r.countP fun k => !(ls.setIfInBounds x true).getD k true) = r.countP fun k => !ls.getD k true := by
              refine List.countP_congr ?_
              intro k hk
              have : k ≠ x := fun h => hxr.1 (h ▸ hk)
              rw [hsame k this]
            rw [this]; simp
          · have hir : i ∈ r := by simpa [Ne.symm e] using hm
            have := ihm hxr.2 hir
            rw [List.countP_cons, List.countP_cons, hsame x e]
            omega
      exact key _ List.nodup_range (List.mem_range.2 hlt)
    omega
theorem flow_text (hC : C.OK) (hf : FlowOK C.τ listed os t0.length) (hG : ∀ n a b, Grow a b → T (n, a) (n, b)) (hT : ∀ a b c, T a b → T b c → T a c)
    (hobl : ∀ i ∈ oblOps os, oblG C os t0 w0 (masks os []) (lins listed os os.length) T A L i)
    (hend : ∀ D a w, J C os t0 w0 (lins listed os os.length) T A L ds D a w → (∀ i, i < os.length → D i = true) → Q .normal a w) :
    ∀ (n i : Nat) (a : Act) (w : World), i + n = os.length → J C os t0 w0 (lins listed os os.length) T A L ds (fun k => decide (k < i)) a w → wpOpsIn (FF l) 0 C.P os.toArray Q (List.range' i n) a w := by
  intro n
  induction n with
  | zero =>
    intro i a w hi hJ
    exact hend _ a w hJ (fun k hk => by simp; omega)
  | succ n ih =>
    intro i a w hi hJ
    rw [List.range'_succ, wpOpsIn_cons]
    have hlt : i < os.length := by omega
    have ho : os[i]? = some os[i] := List.getElem?_eq_getElem hlt
    have hr : Ready os (fun k => decide (k < i)) i := by
      intro o ho' e he hb
      have := hf.edge i o ho' e he hb
      simpa using this
    have hcl : Closed os (fun k => decide (k < i)) := by
      intro k o hk ho' e he hb
      have := hf.edge k o ho' e he hb
      simp at hk ⊢; omega
    refine flow_step hC hf hG hT hobl hJ hcl ho hr (by simp) ?_
    intro a' w' hJ'
    have : plusD (fun k => decide (k < i)) i = fun k => decide (k < i + 1) := by
      funext k
      unfold plusD
      by_cases e : k = i
      · subst e; simp
      · have h : (k < i) ↔ (k < i + 1) := by omega
        rw [if_neg e]; simp [h]
    rw [this] at hJ'
    exact ih (i + 1) a' w' (by omega) hJ'
theorem flow_region (hC : C.OK) {ops : List Oper} (hf : FlowOK C.τ listed ops t0.length) (h : flow C listed ops k t0 w0) (id : Nat) (draw : Bool)
    (hQ : ∀ t' w', t'.length = t0.length → (∀ i, i ∉ ops.filterMap (·.dst) → t'[i]? = t0[i]?) → NC C.X w0 w' → k t' w' → Q .normal ⟨t'.toArray, ds⟩ w') :
    (Code.region id ops.toArray draw).wpIn (FF l) 0 C.P Q ⟨t0.toArray, ds⟩ w0 := by
  have main : ∀ (T : Nat × World → Nat × World → Prop) (L : List Value → World → Prop) (A : AFG), (∀ n a b, Grow a b → T (n, a) (n, b)) → (∀ a b c, T a b → T b c → T a c) → (∀ w, Grow w0 w → L [] w) →
      (∀ i ∈ oblOps ops, oblG C ops t0 w0 (masks ops []) (lins listed ops ops.length) T A L i) → flowEndG C listed ops k t0 w0 T A L →
      (Code.region id ops.toArray draw).wpIn (FF l) 0 C.P Q ⟨t0.toArray, ds⟩ w0 := by
    intro T L A hG hT hL hobl hfin
    have hend : ∀ D a w, J C ops t0 w0 (lins listed ops ops.length) T A L ds D a w → (∀ i, i < ops.length → D i = true) → Q .normal a w :=
      fun D a w hJ hall => flow_end hf hG hJ hall hfin hQ
    cases draw with
    | true =>
      refine wpIn_region_any hC.mixed ?_
      have hgr : Grow w0 { w0 with drawn := w0.drawn + 1 } := ⟨rfl, rfl, rfl, Nat.le_refl _, fun _ _ h => h⟩
      have hst := J_start (C := C) (listed := listed) (os := ops) (t0 := t0) (T := T) (A := A) (L := L) (ds := ds) hG hL hgr
      have hfun : (fun i => (Array.replicate ops.length false).getD i false) = fun _ => false := by
        funext i
        simp [Array.getD_eq_getD_getElem?, Array.getElem?_replicate]
        split <;> rfl
      refine flow_any hC hf hG hT hobl hend ops.toArray.size _ _ _ (by simp) ?_ ?_ ?_
      · have := List.countP_le_length (p := fun i => !(Array.replicate ops.toArray.size false).getD i true) (l := List.range ops.length)
        simpa using this
      · intro i o h
        have : (fun i => (Array.replicate ops.toArray.size false).getD i false) = fun _ => false := by simpa using hfun
        rw [this] at h; cases h
      · have : (fun i => (Array.replicate ops.toArray.size false).getD i false) = fun _ => false := by simpa using hfun
        rw [this]; exact hst
    | false =>
      refine wpIn_region ?_
      rw [List.range_eq_range']
      refine flow_text hC hf hG hT hobl hend _ 0 _ _ (by simp) ?_
      have hst := J_start (C := C) (listed := listed) (os := ops) (t0 := t0) (T := T) (A := A) (L := L) (ds := ds) hG hL (Grow.refl w0)
      have : (fun k => decide (k < 0)) = fun _ => false := by funext k; simp
      rw [this]; exact hst
  have old : ∀ (T : World → World → Prop) (L : List Value → World → Prop), (∀ a b, Grow a b → T a b) → (∀ a b c, T a b → T b c → T a c) → (∀ w, Grow w0 w → L [] w) → flowBody C listed ops k t0 w0 T L →
      (Code.region id ops.toArray draw).wpIn (FF l) 0 C.P Q ⟨t0.toArray, ds⟩ w0 := by
    intro T L hG hT hL hb
    unfold flowBody at hb
    obtain ⟨A, hA⟩ := exA_spec _ _ hb
    obtain ⟨hobl, hfin⟩ := andAll_spec _ _ _ hA
    refine main (fun a b => T a.2 b.2) L (fun j v s => A j v s.2) (fun _ a b h => hG a b h) (fun a b c h h' => hT _ _ _ h h') hL (fun i hi => ?_) ?_
    · have h := hobl i hi
      unfold obl at h
      unfold oblG
      cases ho : ops[i]? with
      | none => trivial
      | some o =>
        rw [ho] at h
        simp only at h ⊢
        cases hm : moveOp o.op with
        | true => trivial
        | false =>
          rw [hm] at h
          simp only at h ⊢
          refine allV_mono _ _ _ h fun env he n w _ hw => ?_
          have h := he w hw
          cases hc : (lins listed ops ops.length).contains i with
          | true =>
            rw [hc] at h
            simp only at h ⊢
            intro _ hL'
            exact dist_mono (h hL') fun h => (hyps_iff _ _ _).2 fun hh => effP_mono ((hyps_iff _ _ _).1 h hh) fun v w' ⟨h1, h2, h3⟩ => ⟨h1, fun _ w'' => h2 w'', h3⟩
          | false =>
            rw [hc] at h
            simp only at h ⊢
            refine dist_mono h fun h => (hyps_iff _ _ _).2 fun hh => (gImp_iff _ _ _ _ _ _ _).2 fun hg => ?_
            have h := (gImp_iff _ _ _ _ _ _ _).1 ((hyps_iff _ _ _).1 h hh) hg
            cases hp : pureOp C.τ o.op with
            | true => rw [hp] at h; exact h
            | false =>
              rw [hp] at h
              exact effP_mono h fun v w' ⟨h1, h2⟩ => ⟨h1, fun _ w'' => h2 w''⟩
    · unfold flowEndG
      refine allV_mono _ _ _ hfin fun env he h w hw => ?_
      refine dist_mono (he h w hw) fun h' => (hyps_iff _ _ _).2 fun hh => ?_
      have h2 := (hyps_iff _ _ _).1 h' hh
      intro hL'
      cases hl : lins listed ops ops.length with
      | nil => rw [hl] at h2; exact h2
      | cons x r => rw [hl] at h2 hL'; exact h2 hL'
  unfold flow at h
  split at h
  · split at h
    · exact old Grow (fun _ _ => True) (fun _ _ h => h) (fun _ _ _ h h' => h.trans h') (fun _ _ => trivial) h
    · obtain ⟨T, L, h1, h2, h3, h4⟩ := h
      exact old T L h1 h2 h3 h4
  · obtain ⟨T, L, h1, h2, h3, h4⟩ := h
    unfold flowBodyG at h4
    obtain ⟨A, hA⟩ := exAG_spec _ _ h4
    obtain ⟨hobl, hfin⟩ := andAll_spec _ _ _ hA
    exact main T L A h1 h2 h3 hobl hfin
end
end Go.Vc
namespace Go.Vc
open Go
def allIx {α : Type} (f : Nat → α → Bool) : List α → Nat → Bool
  | [], _ => true
  | x :: r, i => f i x && allIx f r (i + 1)
theorem allIx_spec {α : Type} {f : Nat → α → Bool} : ∀ {l : List α} {k : Nat}, allIx f l k = true → ∀ i x, l[i]? = some x → f (k + i) x = true
  | [], _, _, i, x, hx => by simp at hx
  | y :: r, k, h, i, x, hx => by
    unfold allIx at h
    simp only [Bool.and_eq_true] at h
    cases i with
    | zero => simp at hx; subst hx; exact h.1
    | succ i =>
      have := allIx_spec h.2 i x (by simpa using hx)
      rw [show k + (i + 1) = k + 1 + i from by omega]; exact this
def lwL (t : Nat) : List (Option Nat) → Nat → Nat → Option Nat → Option Nat
  | [], _, _, acc => acc
  | d :: r, j, i, acc => if j < i then lwL t r (j + 1) i (if d == some t then some j else acc) else acc
theorem lwL_spec (os : List Oper) (t i : Nat) : ∀ (l : List Oper) (j : Nat) (acc : Option Nat), (∀ k, l[k]? = os[j + k]?) → acc = lw os (min j i) t → i ≤ os.length → lwL t (l.map (·.dst)) j i acc = lw os i t
  | [], j, acc, hl, hacc, hi => by
    have : os.length ≤ j := by
      have := hl 0
      simp at this
      exact this
    simp only [List.map_nil, lwL]
    rw [hacc, Nat.min_eq_right (by omega)]
  | o :: r, j, acc, hl, hacc, hi => by
    simp only [List.map_cons, lwL]
    have ho : os[j]? = some o := by have := hl 0; simpa using this.symm
    by_cases hji : j < i
    · rw [if_pos hji]
      refine lwL_spec os t i r (j + 1) _ (fun k => by have := hl (k + 1); rw [show j + 1 + k = j + (k + 1) from by omega]; simpa using this) ?_ hi
      rw [Nat.min_eq_left (by omega)]
      rw [Nat.min_eq_left (by omega)] at hacc
      conv => rhs; unfold lw
      have hd : dstAt os j = o.dst := by simp [dstAt, ho]
      rw [hd]
      by_cases e : o.dst = some t
      · simp [e]
      · simp [e, hacc]
    · rw [if_neg hji, hacc, Nat.min_eq_right (by omega)]
def lwF (ds : List (Option Nat)) (i t : Nat) : Option Nat := lwL t ds 0 i none
theorem lwF_eq (os : List Oper) {i : Nat} (t : Nat) (hi : i ≤ os.length) : lwF (os.map (·.dst)) i t = lw os i t :=
  lwL_spec os t i os 0 none (by simp) (by simp [lw]) hi
def slotChk (M : List Nat) (ds : List (Option Nat)) (nt i t : Nat) : Bool :=
  decide (t < nt) && allIx (fun j d => !(d == some t) || j == i || (if j < i then reach M i j else reach M j i)) ds 0
def gdF (os : List Oper) (j : Nat) : Option (Nat × Bool) := (os[j]?).bind (·.guard)
def dataOk (os : List Oper) (ds : List (Option Nat)) (i : Nat) (o : Oper) (x : Operand) : Bool :=
  match slotOf x with
  | none => true
  | some t => match lwF ds i t with
    | none => true
    | some j => gdF os j == none || gdF os j == o.guard
def armOk (os : List Oper) (ds : List (Option Nat)) (i : Nat) (o : Oper) (c : Operand) (b : Bool) (x : Operand) : Bool :=
  match slotOf x with
  | none => true
  | some t => match lwF ds i t with
    | none => true
    | some j => gdF os j == none || gdF os j == o.guard || (match slotOf c with
      | none => false
      | some c' => match lwF ds i c' with
        | none => false
        | some jc => gdF os j == some (jc, b))
def chainChk (M : List Nat) : List Nat → Bool
  | a :: b :: r => reach M b a && chainChk M (b :: r)
  | _ => true
def opChk (τ : TypeId → Ty) (listed : List Nat) (os : List Oper) (M : List Nat) (ds : List (Option Nat)) (nt : Nat) (i : Nat) (o : Oper) : Bool :=
  known o.op && noDefer o.op &&
  (o.after.toList.all fun e => !(Region.binds .any e) || decide (e.on < i)) &&
  ((slots o).all (slotChk M ds nt i)) &&
  (match o.dst with | some d => slotChk M ds nt i d | none => true) &&
  (match o.guard with
   | none => true
   | some (j, _) => decide (j < i) && reach M i j && (match (ds[j]?).bind id with
     | none => false
     | some d => slotChk M ds nt i d && lwF ds i d == some j)) &&
  (match o.op with
   | .pick c a b => dataOk os ds i o c && armOk os ds i o c true a && armOk os ds i o c false b
   | _ => (opnds o.op).all (dataOk os ds i o)) &&
  (!(linOp listed i o) || (o.guard.isNone && !(moveOp o.op) && !(pureOp τ o.op))) &&
  (match o.guard, o.dst with
   | some _, some d => allIx (fun j d' => !(d' == some d) || j == i) ds 0
   | _, _ => true)
def flowChk (τ : TypeId → Ty) (listed : List Nat) (os : List Oper) (nt : Nat) : Bool :=
  let M := masks os []
  let ds := os.map (·.dst)
  allIx (opChk τ listed os M ds nt) os 0 && chainChk M (lins listed os os.length)
section
variable {τ : TypeId → Ty} {listed : List Nat} {os : List Oper} {nt : Nat}
theorem dst_map (j : Nat) : ((os.map (·.dst))[j]?).bind id = dstAt os j := by
  unfold dstAt
  simp only [List.getElem?_map]
  cases os[j]? <;> rfl
theorem slotChk_spec {i t : Nat} (h : slotChk (masks os []) (os.map (·.dst)) nt i t = true) :
    t < nt ∧ ∀ j, dstAt os j = some t → j ≠ i → if j < i then reach (masks os []) i j = true else reach (masks os []) j i = true := by
  unfold slotChk at h
  simp only [Bool.and_eq_true, decide_eq_true_eq] at h
  refine ⟨h.1, fun j hj hne => ?_⟩
  obtain ⟨o, ho, hd⟩ := dstAt_some hj
  have := allIx_spec h.2 j (some t) (by simp [ho, hd])
  simp only [Nat.zero_add, beq_self_eq_true, Bool.not_true, Bool.false_or, Bool.or_eq_true, beq_iff_eq, hne, false_or] at this
  split at this
  · rename_i hlt; rw [if_pos hlt]; exact this
  · rename_i hge; rw [if_neg hge]; exact this
theorem dataOk_spec {i : Nat} {o : Oper} {x : Operand} (hi : i ≤ os.length) (h : dataOk os (os.map (·.dst)) i o x = true) : ∀ t, slotOf x = some t → ∀ j, lw os i t = some j → gdOf os j = none ∨ gdOf os j = o.guard := by
  intro t ht j hj
  unfold dataOk at h
  rw [ht] at h
  simp only [lwF_eq os t hi, hj, Bool.or_eq_true, beq_iff_eq] at h
  exact h
theorem armOk_spec {i : Nat} {o : Oper} {c x : Operand} {b : Bool} (hi : i ≤ os.length) (h : armOk os (os.map (·.dst)) i o c b x = true) : ∀ t, slotOf x = some t → ∀ j, lw os i t = some j →
    gdOf os j = none ∨ gdOf os j = o.guard ∨ ∃ c' jc, slotOf c = some c' ∧ lw os i c' = some jc ∧ gdOf os j = some (jc, b) := by
  intro t ht j hj
  unfold armOk at h
  rw [ht] at h
  simp only [lwF_eq os t hi, hj, Bool.or_eq_true, beq_iff_eq] at h
  rcases h with (h | h) | h
  · exact .inl h
  · exact .inr (.inl h)
  · refine .inr (.inr ?_)
    split at h
    · cases h
    · rename_i c' hc
      simp only [lwF_eq os c' hi] at h
      split at h
      · cases h
      · rename_i jc hjc
        exact ⟨c', jc, hc, hjc, beq_iff_eq.1 h⟩
theorem chainChk_spec (M : List Nat) : ∀ (l : List Nat), chainChk M l = true → ∀ p a b s, l = p ++ a :: b :: s → reach M b a = true
  | [], _, p, a, b, s, h => by simp at h
  | [x], _, p, a, b, s, h => by
    cases p with
    | nil => simp at h
    | cons y q => simp at h
  | x :: y :: r, hc, p, a, b, s, h => by
    unfold chainChk at hc
    simp only [Bool.and_eq_true] at hc
    cases p with
    | nil => simp at h; obtain ⟨rfl, rfl, _⟩ := h; exact hc.1
    | cons z q =>
      simp only [List.cons_append, List.cons.injEq] at h
      exact chainChk_spec M (y :: r) hc.2 q a b s h.2
theorem flowChk_spec (h : flowChk τ listed os nt = true) : FlowOK τ listed os nt := by
  unfold flowChk at h
  simp only [Bool.and_eq_true] at h
  have hop : ∀ (i : Nat) (o : Oper), os[i]? = some o → opChk τ listed os (masks os []) (os.map (·.dst)) nt i o = true := fun i o ho => by
    have := allIx_spec h.1 i o ho
    rwa [Nat.zero_add] at this
  constructor
  · intro i o ho
    have := hop i o ho
    simp only [opChk, Bool.and_eq_true] at this
    exact ⟨this.1.1.1.1.1.1.1.1, this.1.1.1.1.1.1.1.2⟩
  · intro i o ho e he hb
    have := hop i o ho
    simp only [opChk, Bool.and_eq_true] at this
    have := List.all_eq_true.1 this.1.1.1.1.1.1.2 e he
    simpa [hb] using this
  · intro i o t ho ht
    have := hop i o ho
    simp only [opChk, Bool.and_eq_true] at this
    rcases ht with ht | ht | ⟨j, b, hg, hd⟩
    · exact slotChk_spec (List.all_eq_true.1 this.1.1.1.1.1.2 t ht)
    · have h2 := this.1.1.1.1.2
      rw [ht] at h2
      exact slotChk_spec h2
    · have h2 := this.1.1.1.2
      rw [hg] at h2
      simp only [dst_map, hd, Bool.and_eq_true] at h2
      exact slotChk_spec h2.2.1
  · intro i o j b ho hg
    have := hop i o ho
    simp only [opChk, Bool.and_eq_true] at this
    have h2 := this.1.1.1.2
    rw [hg] at h2
    simp only [dst_map, Bool.and_eq_true, decide_eq_true_eq] at h2
    refine ⟨h2.1.1, h2.1.2, ?_⟩
    have h3 := h2.2
    split at h3
    · cases h3
    · rename_i d hd
      simp only [Bool.and_eq_true, beq_iff_eq] at h3
      exact ⟨d, hd, by rw [← lwF_eq os d (Nat.le_of_lt (lt_len ho))]; exact h3.2⟩
  · intro i o ho
    have := hop i o ho
    simp only [opChk, Bool.and_eq_true] at this
    have h2 := this.1.1.2
    have hi := Nat.le_of_lt (lt_len ho)
    cases hop' : o.op <;> rw [hop'] at h2 <;> simp only [Bool.and_eq_true] at h2 ⊢ <;>
      first
        | exact ⟨dataOk_spec hi h2.1.1, armOk_spec hi h2.1.2, armOk_spec hi h2.2⟩
        | (intro t ht j hj
           obtain ⟨x, hx, hxt⟩ := List.mem_filterMap.1 ht
           rw [hop'] at hx
           exact dataOk_spec hi (List.all_eq_true.1 h2 x hx) t hxt j hj)
  · intro i o hm ho
    have := hop i o ho
    simp only [opChk, Bool.and_eq_true] at this
    have h2 := this.1.2
    unfold lins at hm
    simp only [List.mem_filter, ho] at hm
    rw [hm.2] at h2
    simpa [and_assoc] using h2
  · intro p a b s hl
    exact chainChk_spec _ _ h.2 p a b s hl
  · intro i o d ho hg hd j hj
    have := hop i o ho
    simp only [opChk, Bool.and_eq_true] at this
    have h2 := this.2
    obtain ⟨g, hg⟩ := Option.isSome_iff_exists.1 hg
    rw [hg, hd] at h2
    simp only at h2
    obtain ⟨oj, hoj, hdj⟩ := dstAt_some hj
    have := allIx_spec h2 j (some d) (by simp [hoj, hdj])
    simpa using this
end
end Go.Vc
namespace Go.Vc
open Go
structure Ann where
  keep : Nat → List Nat := fun _ => []
  lin : Nat → List Nat := fun _ => []
  join : Nat → Option (List Nat) := fun _ => none
def firstReg : Code → Option Nat
  | .region id _ _ => some id
  | .seq a b => (firstReg a).orElse fun _ => firstReg b
  | .cond _ a b => (firstReg a).orElse fun _ => firstReg b
  | .block _ c | .loop c | .scope c => firstReg c
  | .rangeFunc _ _ a b => (firstReg a).orElse fun _ => firstReg b
  | _ => none
def mods : Code → List Nat
  | .region _ ops _ => ops.toList.filterMap (·.dst)
  | .seq a b => mods a ++ mods b
  | .cond _ a b => mods a ++ mods b
  | .block _ c | .loop c | .scope c => mods c
  | _ => []
def noRange : Code → Bool
  | .seq a b => noRange a && noRange b
  | .cond _ a b => noRange a && noRange b
  | .block _ c | .loop c | .scope c => noRange c
  | .rangeFunc .. => false
  | _ => true
def Cur (α : Type) : Nat → Type
  | 0 => World → α
  | n + 1 => Value → Cur α n
def appK {α : Type} : (ks : List Nat) → Cur α ks.length → (Nat → Value) → World → α
  | [], f, _, w => f w
  | s :: r, f, g, w => appK r (f (g s)) g w
def updF (ks ms : List Nat) (g h : Nat → Value) : Nat → Fr → Fr
  | _, [] => []
  | i, v :: r => (if ks.contains i then g i else if ms.contains i then h i else v) :: updF ks ms g h (i + 1) r
def slotsOf (t : Fr) (s : Nat) : Value := t.getD s undef
def LoopP (ks ms : List Nat) (body : (Fr → World → Prop) → Fr → World → Prop) (t : Fr) (w : World) : Prop :=
  ∃ (I : Cur Prop ks.length) (μ : Cur Nat ks.length), appK ks I (slotsOf t) w ∧
    allV ks fun g => ∀ (h : Nat → Value) w', appK ks I g w' → body (fun t' w'' => appK ks I (slotsOf t') w'' ∧ appK ks μ (slotsOf t') w'' < appK ks μ g w') (updF ks ms g h 0 t) w'
def JoinP (ks ms : List Nat) (body : (Fr → World → Prop) → Prop) (t : Fr) (rest : Fr → World → Prop) : Prop :=
  ∃ J : Cur Prop ks.length, body (fun t' w' => appK ks J (slotsOf t') w') ∧
    allV ks fun g => ∀ (h : Nat → Value) w', appK ks J g w' → rest (updF ks ms g h 0 t) w'
inductive Jmp where
  | ret
  | exit (i : Nat)
def Jmp.code : Jmp → Code
  | .ret => .ret
  | .exit i => .exit i
def Iter (C : Ctx) (f : FuncId) (cap : List Value) (w0 : World) (Stay : Nat → World → Prop) (N : Nat) (Args : Nat → World → List Value → Prop) : Prop :=
  ∀ (y : Nat) (J : Nat → World → Prop) (Jx : World → Prop), w0.heap.size ≤ y → (∀ k w, J k w → Stay k w) → (∀ k w w', J k w → Grow w w' → J k w') → (∀ w w', Jx w → Grow w w' → Jx w') →
    (∀ k w ags, k < N → J k w → Args k w ags → YieldP { C with X := some y } y ags w fun v w' => (v = .bool true ∧ J (k + 1) w') ∨ (v = .bool false ∧ Jx w')) →
    ∀ w, J 0 w → Calls C.P f (Value.func (.yield y) #[] #[] :: cap).toArray w fun e w' => (∃ v, e = .returned v) ∧ (J N w' ∨ Jx w')
def allL : Nat → (List Value → Prop) → Prop
  | 0, f => f []
  | n + 1, f => ∀ v : Value, allL n fun vs => f (v :: vs)
def RangeP (C : Ctx) (n : Nat) (fv : Value) (rnd : List Value → World → (World → Prop) → (Jmp → World → Prop) → Prop) (done : World → Prop) (leave : Jmp → World → Prop) (w : World) : Prop :=
  ∃ f cap, fv = .func (.func f) #[] cap ∧ C.B f = true ∧ ∃ Stay N Args, Iter C f cap.toList w Stay N Args ∧ (∀ k w' ags, Args k w' ags → ags.length = n) ∧ ∃ (I : Nat → World → Prop) (J : Jmp → World → Prop),
    (∀ w', Sys w.heap.size w w' → I 0 w') ∧ (∀ k w', I k w' → Stay k w') ∧
    (∀ k, k < N → allL n fun ags => ∀ w', I k w' → Args k w' ags → rnd ags w' (fun w2 => ∀ w3, Sys w.heap.size w2 w3 → I (k + 1) w3) (fun j w2 => ∀ w3, Sys w.heap.size w2 w3 → J j w3)) ∧
    (∀ w', I N w' → done w') ∧ (∀ j w', J j w' → leave j w')
def setL : List Nat → List Value → Fr → Fr
  | p :: r, v :: vs, t => setL r vs (t.set p v)
  | _, _, t => t
def flat (ops : List Oper) : Bool := ops.all fun o => o.guard.isNone
def vc (C : Ctx) (A : Ann) (inr : Bool) : Code → (Fr → World → Prop) → (Fr → World → Prop) → (Nat → Fr → World → Prop) → Fr → World → Prop
  | .skip, kn, _, _, t, w => kn t w
  | .label _, kn, _, _, t, w => kn t w
  | .ret, _, kr, _, t, w => kr t w
  | .exit i, _, _, ke, t, w => ke i t w
  | .seq a b, kn, kr, ke, t, w => match A.join ((firstReg b).getD 1000000) with
    | none => vc C A inr a (fun t' w' => vc C A inr b kn kr ke t' w') kr ke t w
    | some ks => JoinP ks (mods a) (fun k => vc C A inr a k kr ke t w) t (fun t' w' => vc C A inr b kn kr ke t' w')
  | .cond c a b, kn, kr, ke, t, w => CondP (ev t c) (vc C A inr a kn kr ke t w) (vc C A inr b kn kr ke t w)
  | .block id c, kn, kr, ke, t, w => vc C A inr c kn kr (fun i t' w' => if i = id then kn t' w' else ke i t' w') t w
  | .scope c, kn, kr, ke, t, w => match inr with
    | true => False
    | false => vc C A inr c kn kr ke t w
  | .loop c, _, kr, ke, t, w => LoopP (A.keep ((firstReg c).getD 0)) (mods c) (fun k t' w' => vc C A inr c k kr ke t' w') t w
  | .region id ops draw, kn, _, _, t, w => match draw || !(flat ops.toList) with
    | false => vcSeq C ops.toList kn t w
    | true => match seqMark (A.lin id), draw with
      | true, true => False
      | true, false => vcSeqG C ops.toList ops.toList [] kn t w
      | false, _ => match seqMarkH (A.lin id), draw with
        | true, true => False
        | true, false => match okH ops.toList t.length with
          | true => vcSeqH C ops.toList ops.toList [] kn t w
          | false => False
        | false, _ => match flowChk C.τ (A.lin id) ops.toList t.length with
          | true => flow C (A.lin id) ops.toList kn t w
          | false => False
  | .rangeFunc f params assign body, kn, kr, ke, t, w => match inr, C.X with
    | false, none => RangeP C params.toList.length (ev t f)
        (fun ags w' next stop => vc C A true assign (fun t1 w1 => ∀ w2, Sys w.heap.size w1 w2 → vc C A true body (fun _ w3 => next w3) (fun _ w3 => stop .ret w3) (fun i _ w3 => stop (.exit i) w3) t1 w2)
          (fun _ _ => False) (fun _ _ _ => False) (setL params.toList ags t) w')
        (fun w' => kn t w') (fun j w' => match j with | .ret => kr t w' | .exit i => ke i t w') w
    | _, _ => False
  | _, _, _, _, _, _ => False
def marks (Ds : List Nat) : List Deferred := Ds.map fun D => { target := .collected D, args := #[] }
structure DsOK (C : Ctx) (Ds : List Nat) (w : World) : Prop where
  at_ : ∀ D ∈ Ds, w.heap[D]? = some (.deferred (some [])) ∧ some D ≠ C.X
  nodup : Ds.Nodup
structure Post (C : Ctx) (m : List Nat) (nr : Bool) (t0 : Fr) (w0 : World) (Ds0 : List Nat) (t : Fr) (Ds : List Nat) (w : World) : Prop where
  len : t.length = t0.length
  same : ∀ i, i ∉ m → t[i]? = t0[i]?
  nc : NC C.X w0 w
  ds : DsOK C Ds w
  nr : nr = true → Ds = Ds0
  new : ∀ D ∈ Ds, D ∈ Ds0 ∨ w0.heap.size ≤ D
def QK (C : Ctx) (m : List Nat) (nr : Bool) (t0 : Fr) (w0 : World) (Ds0 : List Nat) (kn kr : Fr → World → Prop) (ke : Nat → Fr → World → Prop) (e : Exit) (a : Act) (w : World) : Prop :=
  ∃ t Ds, a = ⟨t.toArray, marks Ds⟩ ∧ Post C m nr t0 w0 Ds0 t Ds w ∧ match e with | .normal => kn t w | .ret => kr t w | .exit i => ke i t w | _ => False
theorem DsOK.nc {C : Ctx} {Ds : List Nat} {w w' : World} (h : DsOK C Ds w) (hn : NC C.X w w') : DsOK C Ds w' :=
  ⟨fun D hD => ⟨hn.obj D _ (h.at_ D hD).2 (h.at_ D hD).1 rfl, (h.at_ D hD).2⟩, h.nodup⟩
theorem Post.refl {C : Ctx} {m : List Nat} {nr : Bool} {t : Fr} {w : World} {Ds : List Nat} (h : DsOK C Ds w) : Post C m nr t w Ds t Ds w :=
  ⟨rfl, fun _ _ => rfl, NC.refl _ _, h, fun _ => rfl, fun _ h => .inl h⟩
theorem Post.trans {C : Ctx} {m m' : List Nat} {nr nr' : Bool} {t0 t1 t2 : Fr} {w0 w1 w2 : World} {D0 D1 D2 : List Nat} (h : Post C m nr t0 w0 D0 t1 D1 w1) (h' : Post C m' nr' t1 w1 D1 t2 D2 w2) :
    Post C (m ++ m') (nr && nr') t0 w0 D0 t2 D2 w2 := by
  refine ⟨h'.len.trans h.len, fun i hi => ?_, h.nc.trans h'.nc, h'.ds, fun hn => ?_, fun D hD => ?_⟩
  · rw [h'.same i (fun hm => hi (List.mem_append_right _ hm)), h.same i (fun hm => hi (List.mem_append_left _ hm))]
  · simp only [Bool.and_eq_true] at hn; rw [h'.nr hn.2, h.nr hn.1]
  · rcases h'.new D hD with h1 | h1
    · exact h.new D h1
    · exact .inr (Nat.le_trans h.nc.size h1)
theorem Post.mono {C : Ctx} {m m' : List Nat} {nr nr' : Bool} {t0 t1 : Fr} {w0 w1 : World} {D0 D1 : List Nat} (h : Post C m nr t0 w0 D0 t1 D1 w1) (hm : ∀ i ∈ m, i ∈ m') (hn : nr' = true → nr = true) : Post C m' nr' t0 w0 D0 t1 D1 w1 :=
  ⟨h.len, fun i hi => h.same i (fun h => hi (hm i h)), h.nc, h.ds, fun h' => h.nr (hn h'), h.new⟩
theorem QK.shift {C : Ctx} {m m' M : List Nat} {nr nr' N : Bool} {t0 t1 : Fr} {w0 w1 : World} {D0 D1 : List Nat} {kn kr : Fr → World → Prop} {ke : Nat → Fr → World → Prop} (h : Post C m nr t0 w0 D0 t1 D1 w1)
    (hm : ∀ i, i ∈ m ∨ i ∈ m' → i ∈ M) (hn : N = true → nr = true ∧ nr' = true) {e : Exit} {a : Act} {w : World} (h' : QK C m' nr' t1 w1 D1 kn kr ke e a w) : QK C M N t0 w0 D0 kn kr ke e a w := by
  obtain ⟨t, Ds, ha, hp, hk⟩ := h'
  exact ⟨t, Ds, ha, (h.trans hp).mono (fun i hi => hm i (List.mem_append.1 hi)) (fun h => by simp [hn h]), hk⟩
theorem updF_spec (ks ms : List Nat) (g h : Nat → Value) : ∀ (t : Fr) (k i : Nat), (updF ks ms g h k t)[i]? = (t[i]?).map fun v => if ks.contains (k + i) then g (k + i) else if ms.contains (k + i) then h (k + i) else v
  | [], k, i => by simp [updF]
  | v :: r, k, 0 => by simp [updF]
  | v :: r, k, i + 1 => by
    simp only [updF, List.getElem?_cons_succ]
    rw [updF_spec ks ms g h r (k + 1) i, show k + 1 + i = k + (i + 1) from by omega]
theorem appK_congr {α : Type} : ∀ (ks : List Nat) (f : Cur α ks.length) (g g' : Nat → Value) (w : World), (∀ s ∈ ks, g s = g' s) → appK ks f g w = appK ks f g' w
  | [], _, _, _, _, _ => rfl
  | s :: r, f, g, g', w, h => by
    unfold appK
    rw [h s (by simp)]
    exact appK_congr r _ g g' w (fun x hx => h x (by simp [hx]))
theorem setL_eq : ∀ (ps : List Nat) (ags : List Value) (t : Array Value), ((ps.zip ags).foldl (fun t (x : Nat × Value) => t.setIfInBounds x.1 x.2) t).toList = setL ps ags t.toList
  | [], _, _ => by simp [setL]
  | _ :: _, [], _ => by simp [setL]
  | p :: r, v :: vs, t => by
    simp only [List.zip_cons_cons, List.foldl_cons, setL]
    rw [setL_eq r vs]
    simp
theorem allL_spec : ∀ (n : Nat) (f : List Value → Prop), allL n f → ∀ ags : List Value, ags.length = n → f ags
  | 0, f, h, ags, hl => by
    have : ags = [] := List.length_eq_zero_iff.1 hl
    subst this; exact h
  | n + 1, f, h, [], hl => by simp at hl
  | n + 1, f, h, v :: vs, hl => allL_spec n _ (h v) vs (by simpa using hl)
end Go.Vc
namespace Go.Vc
open Go
section
variable {C : Ctx} {A : Ann}
theorem wc_mono {l : Option Nat} {c : Code} {Q Q' : Exit → Act → World → Prop} {a : Act} {w : World} (h : c.wpIn (FF l) 0 C.P Q a w) (hq : ∀ e a w, Q e a w → Q' e a w) : c.wpIn (FF l) 0 C.P Q' a w := wpIn_mono h hq
theorem Post.frame {m : List Nat} {nr : Bool} {t t' : Fr} {w w' : World} {Ds Ds' : List Nat} (ks : List Nat) (hp : Post C m nr t w Ds t' Ds' w') : updF ks m (restr ks (slotsOf t')) (slotsOf t') 0 t = t' := by
  apply List.ext_getElem?
  intro i
  rw [updF_spec]
  simp only [Nat.zero_add]
  cases hti : t[i]? with
  | none =>
    have : t.length ≤ i := List.getElem?_eq_none_iff.1 hti
    rw [List.getElem?_eq_none (by rw [hp.len]; exact this)]; rfl
  | some v =>
    have hlt : i < t'.length := by rw [hp.len]; exact (List.getElem?_eq_some_iff.1 hti).1
    have hs : t'[i]? = some (slotsOf t' i) := by
      rw [List.getElem?_eq_getElem hlt]; simp [slotsOf, List.getD_eq_getElem?_getD, hlt]
    simp only [Option.map_some, hs]
    by_cases h1 : ks.contains i = true
    · rw [if_pos h1]; simp only [restr]; rw [if_pos (by simpa using h1)]
    · rw [if_neg h1]
      by_cases h2 : m.contains i = true
      · rw [if_pos h2]
      · rw [if_neg h2]
        have := hp.same i (by simpa using h2)
        rw [← hs, this, hti]
theorem loop_sound {l : Option Nat} {ks : List Nat} {c : Code} {kr : Fr → World → Prop} {ke : Nat → Fr → World → Prop} {inr : Bool}
    (ih : ∀ (kn kr : Fr → World → Prop) (ke : Nat → Fr → World → Prop) (t : Fr) (w : World) (Ds : List Nat), vc C A inr c kn kr ke t w → DsOK C Ds w →
      c.wpIn (FF l) 0 C.P (QK C (mods c) (noRange c) t w Ds kn kr ke) ⟨t.toArray, marks Ds⟩ w)
    {kn : Fr → World → Prop} {t : Fr} {w : World} {Ds : List Nat} (h : LoopP ks (mods c) (fun k t' w' => vc C A inr c k kr ke t' w') t w) (hds : DsOK C Ds w) :
    (Code.loop c).wpIn (FF l) 0 C.P (QK C (mods c) (noRange c) t w Ds kn kr ke) ⟨t.toArray, marks Ds⟩ w := by
  obtain ⟨I, μ, h0, hstep⟩ := h
  refine wpIn_loop (fun a' w' => ∃ t' Ds', a' = ⟨t'.toArray, marks Ds'⟩ ∧ Post C (mods c) (noRange c) t w Ds t' Ds' w' ∧ appK ks I (slotsOf t') w') (fun a' w' => appK ks μ (slotsOf a'.tmps.toList) w') ⟨t, Ds, rfl, Post.refl hds, h0⟩ ?_
  rintro a' w' ⟨t', Ds', rfl, hp, hI⟩
  have hfr := hp.frame ks
  have hs := allV_spec (slotsOf t') ks _ hstep (slotsOf t') w' (by rw [appK_congr ks I _ (slotsOf t') w' (fun s hs => by simp [restr, hs])]; exact hI)
  rw [hfr] at hs
  refine wc_mono (ih _ _ _ t' w' Ds' hs hp.ds) ?_
  rintro e a'' w'' ⟨t'', Ds'', rfl, hp', hk⟩
  cases e with
  | normal =>
    obtain ⟨hI', hlt⟩ := hk
    refine ⟨⟨t'', Ds'', rfl, (hp.trans hp').mono (by simp) (by simp), hI'⟩, ?_⟩
    rw [appK_congr ks μ (restr ks (slotsOf t')) (slotsOf t') w' (fun s hs => by simp [restr, hs])] at hlt
    simpa using hlt
  | ret => exact ⟨t'', Ds'', rfl, (hp.trans hp').mono (by simp) (by simp), hk⟩
  | exit i => exact ⟨t'', Ds'', rfl, (hp.trans hp').mono (by simp) (by simp), hk⟩
  | goto => exact hk.elim
  | panic => exact hk.elim
  | outgrown => exact hk.elim
theorem zipfold (params : Array Nat) (args : Array Value) (t : Array Value) :
    (params.zip args).foldl (fun tmps (x : Nat × Value) => tmps.setIfInBounds x.1 x.2) t = (params.toList.zip args.toList).foldl (fun t (x : Nat × Value) => t.setIfInBounds x.1 x.2) t := by
  rw [← Array.foldl_toList, Array.toList_zip]
theorem range_sound (hC : C.OK) (hX : C.X = none) {f : Operand} {params : Array Tmp} {assign body : Code}
    (ih1 : ∀ (l : Option Nat) (kn kr : Fr → World → Prop) (ke : Nat → Fr → World → Prop) (t : Fr) (w : World) (Ds : List Nat), vc C A true assign kn kr ke t w → DsOK C Ds w →
      assign.wpIn (FF l) 0 C.P (QK C (mods assign) (noRange assign) t w Ds kn kr ke) ⟨t.toArray, marks Ds⟩ w)
    (ih2 : ∀ (l : Option Nat) (kn kr : Fr → World → Prop) (ke : Nat → Fr → World → Prop) (t : Fr) (w : World) (Ds : List Nat), vc C A true body kn kr ke t w → DsOK C Ds w →
      body.wpIn (FF l) 0 C.P (QK C (mods body) (noRange body) t w Ds kn kr ke) ⟨t.toArray, marks Ds⟩ w)
    {kn kr : Fr → World → Prop} {ke : Nat → Fr → World → Prop} {t : Fr} {w : World} {Ds : List Nat}
    (h : RangeP C params.toList.length (ev t f)
        (fun ags w' next stop => vc C A true assign (fun t1 w1 => ∀ w2, Sys w.heap.size w1 w2 → vc C A true body (fun _ w3 => next w3) (fun _ w3 => stop .ret w3) (fun i _ w3 => stop (.exit i) w3) t1 w2)
          (fun _ _ => False) (fun _ _ _ => False) (setL params.toList ags t) w')
        (fun w' => kn t w') (fun j w' => match j with | .ret => kr t w' | .exit i => ke i t w') w) (hds : DsOK C Ds w) :
    (Code.rangeFunc f params assign body).wpIn (FF none) 0 C.P (QK C [] false t w Ds kn kr ke) ⟨t.toArray, marks Ds⟩ w := by
  obtain ⟨fn, cap, hfv, hB, Stay, N, Args, hIt, hAl, I, Jp, hI0, hSt, hRnd, hDone, hLeave⟩ := h
  refine wpIn_rangeFunc fun own _ => ?_
  obtain ⟨D, hDe⟩ : ∃ D, D = w.heap.size := ⟨_, rfl⟩
  obtain ⟨y, hye⟩ : ∃ y, y = w.heap.size + 1 := ⟨_, rfl⟩
  obtain ⟨rc, hrc⟩ : ∃ rc : Loop, rc = { state := .ready, pending := none, fn := own, tmps := t.toArray, params := params, assign := assign, body := body, defers := D } := ⟨_, rfl⟩
  obtain ⟨w1, hw1⟩ : ∃ w1, w1 = (w.alloc (.deferred (some []))).alloc (.loop rc) := ⟨_, rfl⟩
  have hg1 : Grow w w1 := by rw [hw1]; exact (Grow.alloc _ _).trans (Grow.alloc _ _)
  have hy1 : w1.heap[y]? = some (.loop rc) := by
    have := World.alloc_heap_new (w.alloc (.deferred (some []))) (.loop rc)
    rw [World.size_alloc] at this
    rw [hw1, hye]; exact this
  have hD1 : w1.heap[D]? = some (.deferred (some [])) := by
    have := (Grow.alloc (w.alloc (.deferred (some []))) (.loop rc)).block D (.deferred (some [])) (by rw [hDe]; exact World.alloc_heap_new w _)
    rw [hw1]; exact this
  -- what holds between two rounds; when a round has left
  let Jk : Nat → World → Prop := fun k w' => w'.heap[y]? = some (.loop rc) ∧ w'.heap[D]? = some (.deferred (some [])) ∧ NC none w w' ∧ ∀ w'', Sys w.heap.size w' w'' → I k w''
  let Jx : World → Prop := fun w' => ∃ j : Jmp, w'.heap[y]? = some (.loop { rc with state := .done, pending := some j.code }) ∧ w'.heap[D]? = some (.deferred (some [])) ∧ NC none w w' ∧ ∀ w'', Sys w.heap.size w' w'' → Jp j w''
  have keepRec : ∀ (a b : World) (o o' : Obj), a.heap[y]? = some o → b = a.putObj y o' → recd o = true → recd o' = true → (a.heap[D]? = some (.deferred (some [])) → b.heap[D]? = some (.deferred (some []))) ∧ (NC none w a → NC none w b) ∧ Sys w.heap.size a b ∧ b.heap[y]? = some o' := by
    intro a b o o' ha hb hr hr'
    subst hb
    have hlt : y < a.heap.size := (Array.getElem?_eq_some_iff.1 ha).1
    refine ⟨fun h => by rw [World.putObj_heap_other (by omega)]; exact h, fun hn => ⟨by simpa using hn.size, fun k x hk hx hrx => ?_⟩, Sys.putRec ha hr (by omega), World.putObj_heap_same hlt⟩
    have hkl : k < w.heap.size := (Array.getElem?_eq_some_iff.1 hx).1
    rw [World.putObj_heap_other (by omega)]
    exact hn.obj k x hk hx hrx
  have hyield : ∀ k w' ags, k < N → Jk k w' → Args k w' ags → YieldP { C with X := some y } y ags w' fun v w'' => (v = .bool true ∧ Jk (k + 1) w'') ∨ (v = .bool false ∧ Jx w'') := by
    intro k w' ags hk hJ hA
    obtain ⟨h1, h2, h3, h4⟩ := hJ
    have hlen := hAl k w' ags hA
    refine ⟨own, (rc.params.zip ags.toArray).foldl (fun tmps (x : Nat × Value) => tmps.setIfInBounds x.1 x.2) rc.tmps, assign, body, ?_, ?_⟩
    · have hs : ags.toArray.size = rc.params.size := by rw [hrc]; simpa using hlen
      have := run_yield (P := C.P) h1 hs
      have e1 : rc.fn = own := by rw [hrc]
      have e2 : rc.assign = assign := by rw [hrc]
      have e3 : rc.body = body := by rw [hrc]
      rw [e1, e2, e3] at this
      exact this
    · refine roundIn_of_wpIn trivial ?_
      have hvc := allL_spec _ _ (hRnd k hk) ags hlen w' (h4 w' (Sys.refl _ _)) hA
      have hfr : ((params.zip ags.toArray).foldl (fun tmps (x : Nat × Value) => tmps.setIfInBounds x.1 x.2) t.toArray) = (setL params.toList ags t).toArray := by
        apply Array.ext'
        rw [zipfold]
        have := setL_eq params.toList ags t.toArray
        simpa using this
      have hass := ih1 (some y) _ _ _ _ w' [] hvc ⟨by simp, by simp⟩
      have hfe : ((rc.params.zip ags.toArray).foldl (fun tmps (x : Nat × Value) => tmps.setIfInBounds x.1 x.2) rc.tmps) = (setL params.toList ags t).toArray := by rw [hrc]; exact hfr
      show assign.wpIn (FF (some y)) 0 C.P _ ⟨((rc.params.zip ags.toArray).foldl (fun tmps (x : Nat × Value) => tmps.setIfInBounds x.1 x.2) rc.tmps), []⟩ w'
      rw [hfe]
      refine wc_mono hass ?_
      rintro e a wa ⟨ta, Da, rfl, hpa, hka⟩
      cases e with
      | normal =>
        have hya : wa.heap[y]? = some (.loop rc) := hpa.nc.obj y _ (by rw [hX]; simp) h1 rfl
        have hDa : wa.heap[D]? = some (.deferred (some [])) := hpa.nc.obj D _ (by rw [hX]; simp) h2 rfl
        have hna : NC none w wa := h3.trans (by have := hpa.nc; rw [hX] at this; exact this)
        have hbr := run_beginRound (P := C.P) hya (by rw [hrc])
        refine ⟨_, hbr, ?_⟩
        obtain ⟨kb1, kb2, kb3, kb4⟩ := keepRec wa _ _ (.loop { rc with state := .busy }) hya rfl rfl rfl
        have hbody := ih2 (some y) _ _ _ ta (wa.putObj y (.loop { rc with state := .busy })) Da (hka _ kb3) (by
          refine ⟨fun x hx => ?_, hpa.ds.nodup⟩
          have := hpa.ds.at_ x hx
          refine ⟨?_, this.2⟩
          have hne : x ≠ y := by intro e; subst e; rw [hya] at this; simp at this
          rw [World.putObj_heap_other hne]; exact this.1)
        refine wc_mono hbody ?_
        rintro e b wb ⟨tb, Db, rfl, hpb, hkb⟩
        have hyb : wb.heap[y]? = some (.loop { rc with state := .busy }) := hpb.nc.obj y _ (by rw [hX]; simp) kb4 rfl
        have hDb : wb.heap[D]? = some (.deferred (some [])) := hpb.nc.obj D _ (by rw [hX]; simp) (kb1 hDa) rfl
        have hnb : NC none w wb := (kb2 hna).trans (by have := hpb.nc; rw [hX] at this; exact this)
        have ncy : ∀ wc : World, (∃ o', wc = wb.putObj y o') → NC (some y) w' wc := by
          rintro wc ⟨o', rfl⟩
          have n1 : NC (some y) w' wa := ⟨hpa.nc.size, fun k o hk ho hr => hpa.nc.obj k o (by rw [hX]; simp) ho hr⟩
          have n2 : NC (some y) wa (wa.putObj y (.loop { rc with state := .busy })) := ⟨by simp, fun k o hk ho hr => by rw [World.putObj_heap_other (by intro e; subst e; simp at hk)]; exact ho⟩
          have n3 : NC (some y) (wa.putObj y (.loop { rc with state := .busy })) wb := ⟨hpb.nc.size, fun k o hk ho hr => hpb.nc.obj k o (by rw [hX]; simp) ho hr⟩
          have n4 : NC (some y) wb (wb.putObj y o') := ⟨by simp, fun k o hk ho hr => by rw [World.putObj_heap_other (by intro e; subst e; simp at hk)]; exact ho⟩
          exact ((n1.trans n2).trans n3).trans n4
        have leaves : ∀ j : Jmp, (∀ w3, Sys w.heap.size wb w3 → Jp j w3) → ∃ v w'', (Instr.endRound y (some j.code)).run C.P wb = .ok v w'' ∧ ∃ v', Ending.returned v = .returned v' ∧ NC (some y) w' w'' ∧ ((v' = .bool true ∧ Jk (k + 1) w'') ∨ (v' = .bool false ∧ Jx w'')) := by
          intro j hj
          have hend := run_endRound (P := C.P) (some j.code) hyb
          refine ⟨_, _, hend, _, rfl, ncy _ ⟨_, rfl⟩, .inr ⟨rfl, j, ?_⟩⟩
          obtain ⟨ke1, ke2, ke3, ke4⟩ := keepRec wb _ _ (.loop { rc with state := .done, pending := some j.code }) hyb rfl rfl rfl
          exact ⟨ke4, ke1 hDb, ke2 hnb, fun w'' hs => hj w'' (ke3.trans hs)⟩
        cases e with
        | normal =>
          have hend := run_endRound (P := C.P) none hyb
          refine ⟨_, _, hend, _, rfl, ncy _ ⟨_, rfl⟩, .inl ⟨rfl, ?_⟩⟩
          obtain ⟨ke1, ke2, ke3, ke4⟩ := keepRec wb _ _ (.loop rc) hyb rfl rfl rfl
          have hsame : (Obj.loop { ({ rc with state := LoopState.busy } : Loop) with state := if (none : Option Code).isNone then LoopState.ready else .done, pending := none }) = .loop rc := by rw [hrc]; rfl
          rw [hsame]
          exact ⟨ke4, ke1 hDb, ke2 hnb, fun w'' hs => hkb w'' (ke3.trans hs)⟩
        | ret => exact leaves .ret hkb
        | exit i => exact leaves (.exit i) hkb
        | goto => exact hkb.elim
        | panic => exact hkb.elim
        | outgrown => exact hkb.elim
      | ret => exact hka.elim
      | exit => exact hka.elim
      | goto => exact hka.elim
      | panic => exact hka.elim
      | outgrown => exact hka.elim
  have hcall := hIt y Jk Jx (by omega) (fun k w' hk => hSt k w' (hk.2.2.2 w' (Sys.refl _ _)))
    (fun k w' w'' hk hg => ⟨hg.block _ _ hk.1, hg.block _ _ hk.2.1, hk.2.2.1.trans hg.nc, fun w3 hs => hk.2.2.2 w3 (hg.sys.trans hs)⟩)
    (fun w' w'' ⟨j, h1, h2, h3, h4⟩ hg => ⟨j, hg.block _ _ h1, hg.block _ _ h2, h3.trans hg.nc, fun w3 hs => h4 w3 (hg.sys.trans hs)⟩)
    hyield w1 ⟨hy1, hD1, hg1.nc, fun w'' hs => hI0 w'' (hg1.sys.trans hs)⟩
  have henter := run_enterLoop_outer (P := C.P) (w := w) own t.toArray params assign body
  refine ⟨y, [{ target := .collected D, args := #[] }], w1, { target := .fn (.func fn) cap, args := #[.func (.yield y) #[] #[]] }, w1, fn, #[.func (.yield y) #[] #[]] ++ cap, w1, ?_, ?_, fun _ _ => trivial, ?_, fun h => by simp at h, ?_⟩
  · rw [hye, hDe, hw1, hrc, hDe]; exact henter
  · have hev : (⟨t.toArray, marks Ds⟩ : Act).eval f = .func (.func fn) #[] cap := by rw [eval_ev]; exact hfv
    show (Deferred.ofValue ((⟨t.toArray, marks Ds⟩ : Act).eval f) _).run C.P w1 = _
    rw [hev]
    simp [Deferred.ofValue, rangeCall, Act.eval]
  · simp only [invoke]
    exact run_callFunc (hC.body fn hB) _ _
  · have e : (#[Value.func (.yield y) #[] #[]] ++ cap) = (Value.func (.yield y) #[] #[] :: cap.toList).toArray := by apply Array.ext'; simp
    rw [e]
    refine callsIn_FF (hcall.mono ?_)
    rintro e w' ⟨⟨v, rfl⟩, hJ⟩
    have hDsw : ∀ (w'' : World), NC none w w'' → w''.heap[D]? = some (.deferred (some [])) → DsOK C (D :: Ds) w'' := by
      intro w'' hn hD
      refine ⟨fun x hx => ?_, ?_⟩
      · rcases List.mem_cons.1 hx with h | h
        · subst h; exact ⟨hD, by rw [hX]; simp⟩
        · have := hds.at_ x h
          exact ⟨hn.obj x _ (by simp) this.1 rfl, this.2⟩
      · refine List.nodup_cons.2 ⟨fun h => ?_, hds.nodup⟩
        have := (Array.getElem?_eq_some_iff.1 (hds.at_ D h).1).1
        omega
    have hpost : ∀ (w'' : World), NC none w w'' → w''.heap[D]? = some (.deferred (some [])) → Post C [] false t w Ds t (D :: Ds) w'' := by
      intro w'' hn hD
      refine ⟨rfl, fun _ _ => rfl, by rw [hX]; exact hn, hDsw w'' hn hD, (fun h => by cases h), fun x hx => ?_⟩
      rcases List.mem_cons.1 hx with h | h
      · subst h; exact .inr (by omega)
      · exact .inl h
    have hmk : (⟨t.toArray, [{ target := .collected D, args := #[] }] ++ marks Ds⟩ : Act) = ⟨t.toArray, marks (D :: Ds)⟩ := rfl
    show rangePost (FF none) 0 C.P y _ ⟨t.toArray, [{ target := .collected D, args := #[] }] ++ marks Ds⟩ (.returned v) w'
    rw [hmk]
    rcases hJ with ⟨h1, h2, h3, h4⟩ | ⟨j, h1, h2, h3, h4⟩
    · have hend := run_endLoop (P := C.P) h1 (by rw [hrc]; simp)
      obtain ⟨ke1, ke2, ke3, _⟩ := keepRec w' _ _ (.loop { rc with state := .exhausted }) h1 rfl rfl rfl
      have hpn : rc.pending = none := by rw [hrc]
      have hend' : (Instr.endLoop y).run C.P w' = .ok none (w'.putObj y (.loop { rc with state := .exhausted })) := by rw [hend, hpn]
      refine ⟨none, _, hend', ?_⟩
      exact ⟨t, D :: Ds, rfl, hpost _ (ke2 h3) (ke1 h2), hDone _ (h4 _ ke3)⟩
    · have hend := run_endLoop (P := C.P) h1 (by simp)
      obtain ⟨ke1, ke2, ke3, _⟩ := keepRec w' _ _ (.loop { ({ rc with state := .done, pending := some j.code } : Loop) with state := .exhausted }) h1 rfl rfl rfl
      refine ⟨some j.code, _, hend, ?_⟩
      have hl := hLeave j _ (h4 _ ke3)
      cases j with
      | ret => exact wpIn_ret ⟨t, D :: Ds, rfl, hpost _ (ke2 h3) (ke1 h2), hl⟩
      | exit i => exact wpIn_exit ⟨t, D :: Ds, rfl, hpost _ (ke2 h3) (ke1 h2), hl⟩
theorem reg_eq (ops : Array Oper) : ops = ops.toList.toArray := by simp
theorem vc_sound (hC : C.OK) (c : Code) : ∀ (inr : Bool) (l : Option Nat), (inr = false → l = none) → ∀ (kn kr : Fr → World → Prop) (ke : Nat → Fr → World → Prop) (t : Fr) (w : World) (Ds : List Nat),
    vc C A inr c kn kr ke t w → DsOK C Ds w → c.wpIn (FF l) 0 C.P (QK C (mods c) (noRange c) t w Ds kn kr ke) ⟨t.toArray, marks Ds⟩ w := by
  induction c with
  | skip => intro inr l hl kn kr ke t w Ds h hds; exact wpIn_skip ⟨t, Ds, rfl, Post.refl hds, h⟩
  | label x => intro inr l hl kn kr ke t w Ds h hds; exact wpIn_label ⟨t, Ds, rfl, Post.refl hds, h⟩
  | ret => intro inr l hl kn kr ke t w Ds h hds; exact wpIn_ret ⟨t, Ds, rfl, Post.refl hds, h⟩
  | exit i => intro inr l hl kn kr ke t w Ds h hds; exact wpIn_exit ⟨t, Ds, rfl, Post.refl hds, h⟩
  | goto x => intro inr l hl kn kr ke t w Ds h hds; exact h.elim
  | refuse x => intro inr l hl kn kr ke t w Ds h hds; exact h.elim
  | seq a b iha ihb =>
    intro inr l hl kn kr ke t w Ds h hds
    unfold vc at h
    have key : ∀ K : Fr → World → Prop, vc C A inr a K kr ke t w → (∀ t' w' Ds', Post C (mods a) (noRange a) t w Ds t' Ds' w' → K t' w' → vc C A inr b kn kr ke t' w') →
        (Code.seq a b).wpIn (FF l) 0 C.P (QK C (mods (.seq a b)) (noRange (.seq a b)) t w Ds kn kr ke) ⟨t.toArray, marks Ds⟩ w := by
      intro K h hK
      refine wpIn_seq (wc_mono (iha inr l hl _ _ _ t w Ds h hds) ?_)
      rintro e a' w' ⟨t', Ds', rfl, hp, hk⟩
      have lift : ∀ {e : Exit}, (match e with | .normal => False | .ret => kr t' w' | .exit i => ke i t' w' | _ => False) → QK C (mods (.seq a b)) (noRange (.seq a b)) t w Ds kn kr ke e ⟨t'.toArray, marks Ds'⟩ w' := by
        intro e he
        refine ⟨t', Ds', rfl, hp.mono (fun i hi => List.mem_append_left _ hi) (fun h => by simp [noRange] at h; exact h.1), ?_⟩
        cases e <;> first | exact he | exact he.elim
      cases e with
      | normal =>
        refine wc_mono (ihb inr l hl _ _ _ t' w' Ds' (hK t' w' Ds' hp hk) hp.ds) ?_
        intro e a'' w'' hq
        exact QK.shift hp (M := mods (.seq a b)) (N := noRange (.seq a b)) (fun i hi => List.mem_append.2 hi) (fun h => by simpa [noRange] using h) hq
      | ret => exact lift (e := .ret) hk
      | exit i => exact lift (e := .exit i) hk
      | goto => exact hk.elim
      | panic => exact hk.elim
      | outgrown => exact hk.elim
    split at h
    · exact key _ h fun _ _ _ _ hk => hk
    · rename_i ks _
      obtain ⟨J, h0, hstep⟩ := h
      refine key _ h0 fun t' w' Ds' hp hk => ?_
      have hs := allV_spec (slotsOf t') ks _ hstep (slotsOf t') w' (by rw [appK_congr ks J _ (slotsOf t') w' (fun s hs => by simp [restr, hs])]; exact hk)
      rw [hp.frame ks] at hs
      exact hs
  | cond x a b iha ihb =>
    intro inr l hl kn kr ke t w Ds h hds
    obtain ⟨v, hv, h1, h2⟩ := h
    refine wpIn_cond_split (t := v) (by rw [eval_ev]; exact hv) (fun hv => ?_) (fun hv => ?_)
    · refine wc_mono (iha inr l hl _ _ _ t w Ds (h1 hv) hds) ?_
      rintro e a' w' ⟨t', Ds', ha, hp, hk⟩
      exact ⟨t', Ds', ha, hp.mono (fun i hi => List.mem_append_left _ hi) (fun h => by simp [noRange] at h; exact h.1), hk⟩
    · refine wc_mono (ihb inr l hl _ _ _ t w Ds (h2 hv) hds) ?_
      rintro e a' w' ⟨t', Ds', ha, hp, hk⟩
      exact ⟨t', Ds', ha, hp.mono (fun i hi => List.mem_append_right _ hi) (fun h => by simp [noRange] at h; exact h.2), hk⟩
  | block id c ih =>
    intro inr l hl kn kr ke t w Ds h hds
    refine wpIn_block (wc_mono (ih inr l hl _ _ _ t w Ds h hds) ?_)
    rintro e a' w' ⟨t', Ds', rfl, hp, hk⟩
    have hp' : Post C (mods (.block id c)) (noRange (.block id c)) t w Ds t' Ds' w' := hp
    cases e with
    | normal => exact ⟨t', Ds', rfl, hp', hk⟩
    | ret => exact ⟨t', Ds', rfl, hp', hk⟩
    | exit i =>
      unfold Exit.inBlock
      simp only at hk ⊢
      split
      · rename_i e; rw [if_pos e] at hk; exact ⟨t', Ds', rfl, hp', hk⟩
      · rename_i e; rw [if_neg e] at hk; exact ⟨t', Ds', rfl, hp', hk⟩
    | goto => exact hk.elim
    | panic => exact hk.elim
    | outgrown => exact hk.elim
  | loop c ih =>
    intro inr l hl kn kr ke t w Ds h hds
    exact loop_sound (fun kn kr ke t w Ds h hds => ih inr l hl kn kr ke t w Ds h hds) h hds
  | scope c ih =>
    intro inr l hl kn kr ke t w Ds h hds
    unfold vc at h
    cases inr with
    | true => exact h.elim
    | false =>
      have hl' := hl rfl
      subst hl'
      have := ih false none (fun _ => rfl) kn kr ke t w Ds h hds
      have h1 : c.wp C.P (Exit.noGoto (QK C (mods c) (noRange c) t w Ds kn kr ke)) ⟨t.toArray, marks Ds⟩ w := by
        refine wpIn_wide.1 (wc_mono (l := none) this ?_)
        intro e a' w' hq
        cases e <;> first | exact hq | (obtain ⟨_, _, _, _, hk⟩ := hq; exact hk.elim)
      exact wpIn_wide.2 (wp_scope_straight h1)
  | region id ops draw =>
    intro inr l hl kn kr ke t w Ds h hds
    unfold vc at h
    have hfin : ∀ t' w', t'.length = t.length → (∀ i, i ∉ ops.toList.filterMap (·.dst) → t'[i]? = t[i]?) → NC C.X w w' → kn t' w' → QK C (mods (.region id ops draw)) (noRange (.region id ops draw)) t w Ds kn kr ke .normal ⟨t'.toArray, marks Ds⟩ w' :=
      fun t' w' h1 h2 h3 h4 => ⟨t', Ds, rfl, ⟨h1, h2, h3, hds.nc h3, fun _ => rfl, fun _ h => .inl h⟩, h4⟩
    cases hb : draw || !(flat ops.toList) with
    | false =>
      rw [hb] at h
      simp only [Bool.or_eq_false_iff, Bool.not_eq_false'] at hb
      obtain ⟨rfl, hfl⟩ := hb
      exact wpIn_region_list (vcSeq_sound hC ops.toList kn t w (marks Ds) w h (NC.refl _ _) hfl hfin)
    | true =>
      rw [hb] at h
      simp only at h
      split at h
      · exact h.elim
      · refine wpIn_region_list ?_
        have := vcSeqG_sound (l := l) (Q := QK C (mods (.region id ops false)) (noRange (.region id ops false)) t w Ds kn kr ke) hC (all := ops.toList) ops.toList [] kn t w (marks Ds) w h (NC.refl _ _) (fun _ _ h => by cases h) hfin
        simpa using this
      · split at h
        · exact h.elim
        · split at h
          · rename_i hok
            refine wpIn_region_list ?_
            have := vcSeqH_sound (l := l) (Q := QK C (mods (.region id ops false)) (noRange (.region id ops false)) t w Ds kn kr ke) hC (all := ops.toList) ops.toList [] kn t w (marks Ds) w h (NC.refl _ _) (fun _ _ h => by cases h) (okH_spec hok) hfin
            simpa using this
          · exact h.elim
        · split at h
          · rename_i hchk
            rw [reg_eq ops]
            exact flow_region hC (flowChk_spec hchk) h id _ (by simpa using hfin)
          · exact h.elim
  | rangeFunc f params assign body iha ihb =>
    intro inr l hl kn kr ke t w Ds h hds
    unfold vc at h
    split at h
    · rename_i hX
      have hl' := hl rfl
      subst hl'
      exact range_sound hC hX (fun l kn kr ke t w Ds h hds => iha true l (fun h => by cases h) kn kr ke t w Ds h hds) (fun l kn kr ke t w Ds h hds => ihb true l (fun h => by cases h) kn kr ke t w Ds h hds) h hds
    · exact h.elim
end
end Go.Vc
namespace Go.Vc
open Go
def resP (P : Program) : List ResultVar → Fr → World → (List Value → Prop) → Prop
  | [], _, _, k => k []
  | .tmp i :: r, t, w, k => resP P r t w fun vs => k (t.getD i undef :: vs)
  | .cell a ty :: r, t, w, k => ∃ addr v, t.getD a undef = .pointer (some addr) ∧ (loadVar ty addr).run P w = .ok v w ∧ resP P r t w fun vs => k (v :: vs)
def tup (vs : List Value) : Value := match vs with | [v] => v | vs => .tuple vs.toArray
def retP (C : Ctx) (rs : List ResultVar) (nr : Bool) (n0 : Nat) (R : Value → World → Prop) (t : Fr) (w : World) : Prop :=
  match nr with
  | true => resP C.P rs t w fun vs => R (tup vs) w
  | false => ∀ w', Sys n0 w w' → resP C.P rs t w' fun vs => R (tup vs) w'
def FnP (C : Ctx) (A : Ann) (fn : Func) (args : List Value) (w : World) (R : Value → World → Prop) : Prop :=
  match fn.body with
  | none => False
  | some c => vc C A false c (retP C fn.results.toList (noRange c) w.heap.size R) (retP C fn.results.toList (noRange c) w.heap.size R) (fun _ _ _ => False) (args ++ List.replicate (fn.ntmps - args.length) undef) w
def resF (t : Fr) (r : ResultVar) : Sem Value := match r with
  | .tmp i => pure (t.toArray.getD i undef)
  | .cell a ty => do loadVar ty (← asAddr (t.toArray.getD a undef))
theorem results_eq (fn : Func) (t : Fr) : results fn t.toArray = (do let vs ← fn.results.mapM (resF t); pure (if h : vs.size = 1 then vs[0] else .tuple vs)) := rfl
theorem results_run {P : Program} {fn : Func} {t : Fr} {w : World} {k : List Value → Prop} (h : resP P fn.results.toList t w k) : ∃ vs, (results fn t.toArray).run P w = .ok (tup vs) w ∧ k vs := by
  have key : ∀ (rs : List ResultVar) (k : List Value → Prop), resP P rs t w k → ∃ vs, (rs.mapM (resF t)).run P w = .ok vs w ∧ k vs := by
    intro rs
    induction rs with
    | nil => intro k h; exact ⟨[], rfl, h⟩
    | cons r rs ih =>
      intro k h
      cases r with
      | tmp i =>
        obtain ⟨vs, h1, h2⟩ := ih _ h
        refine ⟨_, ?_, h2⟩
        rw [List.mapM_cons, Sem.run_bind]
        show (Sem.run P _ w) = _
        rw [Sem.run_bind, h1]
        simp [Result.andThen, List.getD_eq_getElem?_getD, Array.getD_eq_getD_getElem?]
      | cell a ty =>
        obtain ⟨addr, v, ha, hv, h⟩ := h
        obtain ⟨vs, h1, h2⟩ := ih _ h
        refine ⟨_, ?_, h2⟩
        have ha' : t.toArray.getD a undef = .pointer (some addr) := by rw [← ha]; simp [List.getD_eq_getElem?_getD, Array.getD_eq_getD_getElem?]
        have e0 : (do let a ← asAddr (t.toArray.getD a undef); loadVar ty a : Sem Value).run P w = .ok v w := by
          rw [ha', Sem.run_bind]
          exact hv
        rw [List.mapM_cons, Sem.run_bind]
        show ((do let a ← asAddr (t.toArray.getD a undef); loadVar ty a : Sem Value).run P w).andThen _ = _
        rw [e0]
        show (Sem.run P _ w) = _
        rw [Sem.run_bind, h1]
        rfl
  obtain ⟨vs, h1, h2⟩ := key _ _ h
  refine ⟨vs, ?_, h2⟩
  rw [results_eq, Sem.run_bind, Array.mapM_eq_mapM_toList, Sem.run_map, h1]
  show Result.ok _ w = _
  congr 1
  unfold tup
  match vs with
  | [] => simp
  | [v] => simp
  | a :: b :: r => simp
theorem leaves_of (C : Ctx) {fn : Func} {t : Fr} {R : Ending → World → Prop} {n0 : Nat} : ∀ (Ds : List Nat) (w : World), (∀ D ∈ Ds, w.heap[D]? = some (.deferred (some [])) ∧ n0 ≤ D) → Ds.Nodup →
    (∀ w', Sys n0 w w' → (Ds = [] → w' = w) → (∀ k o, (∀ D ∈ Ds, k ≠ D) → w.heap[k]? = some o → w'.heap[k]? = some o) → ∃ v, (results fn t.toArray).run C.P w' = .ok v w' ∧ R (.returned v) w') →
    LeavesInM (FF none) 0 C.P fn t.toArray R (marks Ds) .returning w
  | [], w, _, _, h => by
    obtain ⟨v, h1, h2⟩ := h w (Sys.refl _ _) (fun _ => rfl) (fun _ _ _ h => h)
    show LeavesIn (FF none) 0 C.P fn t.toArray R [] .returning w
    exact ⟨v, h1, h2⟩
  | D :: Ds, w, hD, hn, h => by
    have h0 := hD D (by simp)
    have hlt : D < w.heap.size := (Array.getElem?_eq_some_iff.1 h0.1).1
    refine ⟨by simp, .inl ⟨D, _, rfl, run_takeDeferred h0.1, ?_⟩⟩
    have hnd := List.nodup_cons.1 hn
    refine leaves_of C (n0 := n0) Ds _ (fun x hx => ?_) hnd.2 (fun w' hs _ hk => ?_)
    · have hne : x ≠ D := fun e => hnd.1 (e ▸ hx)
      rw [World.putObj_heap_other hne]
      exact hD x (by simp [hx])
    · refine h w' ((Sys.putRec h0.1 rfl h0.2).trans hs) (fun h => by cases h) (fun k o hk1 hk2 => ?_)
      refine hk k o (fun x hx => hk1 x (by simp [hx])) ?_
      rw [World.putObj_heap_other (hk1 D (by simp))]; exact hk2
theorem call_of_vc {C : Ctx} (hC : C.OK) (A : Ann) {f : FuncId} {fn : Func} {args : List Value} {w : World} {R : Value → World → Prop} (hf : C.P.funcs[f]? = some fn) (h : FnP C A fn args w R) : CallP C f args w R := by
  unfold FnP at h
  cases hb : fn.body with
  | none => rw [hb] at h; exact h.elim
  | some c =>
    rw [hb] at h
    simp only at h
    have hvc := vc_sound (A := A) hC c false none (fun _ => rfl) _ _ _ _ w [] h ⟨by simp, by simp⟩
    have key : CallsIn (FF none) 0 C.P f args.toArray w fun e w' => ∃ v, e = .returned v ∧ NC C.X w w' ∧ R v w' := by
      refine callsIn_of_wp_marks hf hb trivial ?_
      have hfr : (args.toArray ++ Array.replicate (fn.ntmps - args.toArray.size) undef) = (args ++ List.replicate (fn.ntmps - args.length) undef).toArray := by
        apply Array.ext'; simp
      rw [hfr]
      refine wc_mono (C := C) hvc ?_
      rintro e a w' ⟨t', Ds, rfl, hp, hk⟩
      have leave : retP C fn.results.toList (noRange c) w.heap.size R t' w' → LeavesInM (FF none) 0 C.P fn t'.toArray (fun e w' => ∃ v, e = .returned v ∧ NC C.X w w' ∧ R v w') (marks Ds) .returning w' := by
        intro hr
        refine leaves_of C (n0 := w.heap.size) Ds w' (fun D hD => ⟨(hp.ds.at_ D hD).1, by rcases hp.new D hD with h | h; cases h; exact h⟩) hp.ds.nodup ?_
        intro w'' hs heq hkeep
        have hn : NC C.X w w'' := by
          refine ⟨Nat.le_trans hp.nc.size hs.size, fun k o hX hko hro => ?_⟩
          have h1 := hp.nc.obj k o hX hko hro
          refine hkeep k o (fun D hD e => ?_) h1
          subst e
          have hlt := (Array.getElem?_eq_some_iff.1 hko).1
          rcases hp.new k hD with h | h
          · cases h
          · omega
        unfold retP at hr
        cases hnr : noRange c with
        | true =>
          rw [hnr] at hr
          have hd0 := hp.nr hnr
          have := heq hd0
          subst this
          obtain ⟨vs, h1, h2⟩ := results_run hr
          exact ⟨_, h1, _, rfl, hn, h2⟩
        | false =>
          rw [hnr] at hr
          obtain ⟨vs, h1, h2⟩ := results_run (hr w'' hs)
          exact ⟨_, h1, _, rfl, hn, h2⟩
      cases e with
      | normal => exact leave hk
      | ret => exact leave hk
      | exit i => exact hk.elim
      | goto => exact hk.elim
      | panic => exact hk.elim
      | outgrown => exact hk.elim
    exact callsIn_wide.1 key
def eqV : Value → Value → Bool
  | .bool a, .bool b => a == b
  | .int j a, .int k b => j == k && a == b
  | .string a, .string b => a.data.toList == b.data.toList
  | .pointer none, .pointer none => true
  | .slice none a b, .slice none c d => a == c && b == d
  | .map none, .map none => true
  | .nilFunc, .nilFunc => true
  | .nilIface, .nilIface => true
  | _, _ => false
def eqVs : List Value → List Value → Bool
  | [], [] => true
  | a :: r, b :: s => eqV a b && eqVs r s
  | _, _ => false
theorem eqV_spec {a b : Value} (h : eqV a b = true) : a = b := by
  unfold eqV at h
  split at h <;> simp_all
  rename_i x y
  have : x.data = y.data := by first | exact h | (apply Array.ext'; exact h)
  cases x; cases y; simp_all
theorem eqVs_spec : ∀ {a b : List Value}, eqVs a b = true → a = b
  | [], [], _ => rfl
  | [], _ :: _, h => by simp [eqVs] at h
  | _ :: _, [], h => by simp [eqVs] at h
  | a :: r, b :: s, h => by
    simp only [eqVs, Bool.and_eq_true] at h
    rw [eqV_spec h.1, eqVs_spec h.2]
def szChk (P : Program) (e : TypeId) (sz : Nat) : Bool := match P.info? e with | some i => i.size == sz | none => false
def aggChk (P : Program) (e : TypeId) (ag : Bool) : Bool := match P.underlying e with | some (.struct _) => ag | some (.array _ _) => ag | some _ => !ag | none => false
def zeroChk (P : Program) (t : TypeId) (z : List Value) : Bool := match P.info? t with | some i => (match i.zero with | some v => eqVs v.cells.toList z | none => false) | none => false
def fieldsChk (P : Program) : List Field → List (Nat × Nat × Bool) → Bool
  | [], [] => true
  | f :: r, (off, sz, ag) :: s => f.offset == off && szChk P f.type sz && aggChk P f.type ag && fieldsChk P r s
  | _, _ => false
def tyChk (P : Program) (t : TypeId) : Ty → Bool
  | .other => true
  | .bool => match P.underlying t with | some .bool => true | _ => false
  | .string => match P.underlying t with | some .string => true | _ => false
  | .int k => match P.underlying t with | some (.int k') => k == k' | _ => false
  | .slice sz => match P.underlying t with | some (.slice e) => szChk P e sz | _ => false
  | .array len sz z => match P.underlying t with | some (.array n e) => n == len && szChk P e sz && zeroChk P t z | _ => false
  | .struct fs z => match P.underlying t with | some (.struct fields) => fieldsChk P fields.toList fs && zeroChk P t z | _ => false
def tysChk (P : Program) (l : List Ty) : Bool := allIx (tyChk P) l 0
def tyOf (l : List Ty) (t : TypeId) : Ty := l.getD t .other
theorem szChk_spec {P : Program} {e sz : Nat} (h : szChk P e sz = true) : SzOK P e sz := by
  unfold szChk at h
  split at h
  · rename_i i hi; exact ⟨i, hi, by simpa using h⟩
  · cases h
theorem aggChk_spec {P : Program} {e : Nat} {ag : Bool} (h : aggChk P e ag = true) : AggOK P e ag := by
  unfold aggChk at h
  split at h
  · rename_i hd; exact ⟨_, hd, by simpa using h⟩
  · rename_i hd; exact ⟨_, hd, by simpa using h⟩
  · rename_i d h1 h2 hd
    refine ⟨_, hd, ?_⟩
    have : ag = false := by simpa using h
    subst this
    cases d <;> first | rfl | exact absurd rfl (h1 _) | exact absurd rfl (h2 _ _)
  · cases h
theorem zeroChk_spec {P : Program} {t : Nat} {z : List Value} (h : zeroChk P t z = true) : ZeroOK P t z := by
  unfold zeroChk at h
  split at h
  · rename_i i hi
    split at h
    · rename_i v hv; exact ⟨i, v, hi, hv, eqVs_spec h⟩
    · cases h
  · cases h
theorem fieldsChk_spec {P : Program} : ∀ {a : List Field} {b : List (Nat × Nat × Bool)}, fieldsChk P a b = true → FieldsOK P a b
  | [], [], _ => trivial
  | [], _ :: _, h => by simp [fieldsChk] at h
  | _ :: _, [], h => by simp [fieldsChk] at h
  | f :: r, (off, sz, ag) :: s, h => by
    simp only [fieldsChk, Bool.and_eq_true, beq_iff_eq] at h
    exact ⟨h.1.1.1, szChk_spec h.1.1.2, aggChk_spec h.1.2, fieldsChk_spec h.2⟩
theorem tysChk_spec {P : Program} {l : List Ty} (h : tysChk P l = true) : TyOK P (tyOf l) := by
  intro t
  unfold tyOf
  cases hl : l[t]? with
  | none => simp [List.getD_eq_getElem?_getD, hl]
  | some ty =>
    have := allIx_spec h t ty hl
    rw [Nat.zero_add] at this
    simp only [List.getD_eq_getElem?_getD, hl, Option.getD_some]
    cases ty <;> simp only [tyChk] at this ⊢
    · split at this <;> simp_all
    · split at this <;> simp_all
    · split at this <;> simp_all
    · split at this
      · rename_i e he; exact ⟨e, he, szChk_spec this⟩
      · cases this
    · split at this
      · rename_i n e he
        simp only [Bool.and_eq_true, beq_iff_eq] at this
        obtain ⟨⟨rfl, h2⟩, h3⟩ := this
        exact ⟨e, he, szChk_spec h2, zeroChk_spec h3⟩
      · cases this
    · split at this
      · rename_i fields he
        simp only [Bool.and_eq_true] at this
        exact ⟨fields, he, fieldsChk_spec this.1, zeroChk_spec this.2⟩
      · cases this
def bodyChk (P : Program) (f : FuncId) : Bool := match P.funcs[f]? with | some fn => !(fn.name == "runtime.NumGoroutine") && fn.body.isSome | none => false
theorem bodyChk_spec {P : Program} {f : FuncId} (h : bodyChk P f = true) : HasBody P f := by
  unfold bodyChk at h
  split at h
  · rename_i fn hf
    simp only [Bool.and_eq_true, Bool.not_eq_true'] at h
    exact ⟨fn, hf, h.1, h.2⟩
  · cases h
def inRange (a b f : Nat) : Bool := Nat.ble a f && Nat.blt f b
def allRange (p : Nat → Bool) : Nat → Nat → Bool
  | 0, _ => true
  | n + 1, a => p a && allRange p n (a + 1)
theorem allRange_spec {p : Nat → Bool} : ∀ {n a : Nat}, allRange p n a = true → ∀ f, a ≤ f → f < a + n → p f = true
  | 0, a, _, f, h1, h2 => by omega
  | n + 1, a, h, f, h1, h2 => by
    simp only [allRange, Bool.and_eq_true] at h
    by_cases e : f = a
    · subst e; exact h.1
    · exact allRange_spec h.2 f (by omega) (by omega)
abbrev gd (o : Option Value) : Value := o.getD undef
abbrev Is (o : Option Value) : Prop := ∃ v, o = some v
abbrev Fl (T : Nat × World → Nat × World → Prop) (w : World) (b : Nat) (k : Nat → World → Prop) : Prop := ∀ n z, n ≤ b → T (0, w) (n, z) → k n z
abbrev Fw (T : World → World → Prop) (w : World) (k : World → Prop) : Prop := ∀ z, T w z → k z
abbrev Gk (T : Nat × World → Nat × World → Prop) (A : Value → Nat × World → Prop) (n : Nat) (z : World) (x : Value) (y : World) : Prop := Grow z y ∧ ∀ m w'', T (n, y) (m, w'') → A x (m, w'')
abbrev Gw (T : World → World → Prop) (A : Value → World → Prop) (z : World) (x : Value) (y : World) : Prop := Grow z y ∧ ∀ w'', T y w'' → A x w''
abbrev Gl (T : Nat × World → Nat × World → Prop) (L : List Value → World → Prop) (A : Value → Nat × World → Prop) (n : Nat) (z : World) (l : List Value) (x : Value) (y : World) : Prop :=
  T (n, z) (n + 1, y) ∧ (∀ m w'', T (n + 1, y) (m, w'') → A x (m, w'')) ∧ ∀ w'', Grow y w'' → L l w''
abbrev Hg (T : Nat × World → Nat × World → Prop) : Prop := ∀ n a b, Grow a b → T (n, a) (n, b)
abbrev Ht {α : Type} (T : α → α → Prop) : Prop := ∀ a b c, T a b → T b c → T a c
abbrev Hl (L : List Value → World → Prop) (w : World) : Prop := ∀ w', Grow w w' → L [] w'
end Go.Vc
namespace Go.Vc
open Go
structure Upd (S : Nat → Prop) (w w' : World) : Prop where
  os : w'.os = w.os
  tape : w'.tape = w.tape
  output : w'.output = w.output
  size : w.heap.size ≤ w'.heap.size
  block : ∀ (k : Nat) (o : Obj), ¬ S k → w.heap[k]? = some o → w'.heap[k]? = some o
structure Kp (p : Nat → TypeId → Prop) (w w' : World) : Prop where
  size : w.heap.size ≤ w'.heap.size
  cells : ∀ (k : Nat) (c : Array Value) (e : TypeId) (fr : Nat × Nat), p k e → w.heap[k]? = some (.cells c e fr) → w'.heap[k]? = some (.cells c e fr)
theorem Upd.refl (S : Nat → Prop) (w : World) : Upd S w w := ⟨rfl, rfl, rfl, Nat.le_refl _, fun _ _ _ h => h⟩
theorem Upd.trans {S : Nat → Prop} {a b c : World} (h : Upd S a b) (h' : Upd S b c) : Upd S a c :=
  ⟨h'.os.trans h.os, h'.tape.trans h.tape, h'.output.trans h.output, Nat.le_trans h.size h'.size, fun k o hS hk => h'.block k o hS (h.block k o hS hk)⟩
theorem Upd.mono {S S' : Nat → Prop} {w w' : World} (h : Upd S w w') (hS : ∀ k, S k → S' k) : Upd S' w w' :=
  ⟨h.os, h.tape, h.output, h.size, fun k o hk => h.block k o (fun h => hk (hS k h))⟩
theorem Grow.upd {S : Nat → Prop} {w w' : World} (h : Grow w w') : Upd S w w' := ⟨h.os, h.tape, h.output, h.size, fun k o _ hk => h.block k o hk⟩
theorem lt_of_get {w : World} {k : Nat} {o : Obj} (h : w.heap[k]? = some o) : k < w.heap.size := (Array.getElem?_eq_some_iff.1 h).1
theorem Grow.upd_new {S : Nat → Prop} {a b c : World} (h : Grow a b) (h' : Upd S b c) (hS : ∀ k, S k → a.heap.size ≤ k) : Grow a c :=
  ⟨h'.os.trans h.os, h'.tape.trans h.tape, h'.output.trans h.output, Nat.le_trans h.size h'.size, fun k o hk =>
    h'.block k o (fun hs => by have := hS k hs; have := lt_of_get hk; omega) (h.block k o hk)⟩
theorem Grow.sys_new {n : Nat} {a b c : World} (h : Grow a b) (h' : Sys n b c) (hn : a.heap.size ≤ n) : Grow a c :=
  ⟨h'.os.trans h.os, h'.tape.trans h.tape, h'.output.trans h.output, Nat.le_trans h.size h'.size, fun k o hk =>
    h'.block k o (h.block k o hk) (.inl (by have := lt_of_get hk; omega))⟩
theorem Kp.trans {p : Nat → TypeId → Prop} {a b c : World} (h : Kp p a b) (h' : Kp p b c) : Kp p a c :=
  ⟨Nat.le_trans h.size h'.size, fun k x e fr hp hk => h'.cells k x e fr hp (h.cells k x e fr hp hk)⟩
theorem Kp.mono {p q : Nat → TypeId → Prop} {w w' : World} (h : Kp p w w') (hq : ∀ k e, q k e → p k e) : Kp q w w' :=
  ⟨h.size, fun k x e fr hp hk => h.cells k x e fr (hq k e hp) hk⟩
theorem Grow.kp {p : Nat → TypeId → Prop} {w w' : World} (h : Grow w w') : Kp p w w' := ⟨h.size, fun k _ _ _ _ hk => h.block k _ hk⟩
theorem Sys.kp {n : Nat} {p : Nat → TypeId → Prop} {w w' : World} (h : Sys n w w') : Kp p w w' := ⟨h.size, fun k _ _ _ _ hk => h.block k _ hk (.inr rfl)⟩
theorem Upd.kp {S : Nat → Prop} {p : Nat → TypeId → Prop} {w w' : World} (h : Upd S w w') (hp : ∀ (k : Nat) (c : Array Value) (e : TypeId) (fr : Nat × Nat), p k e → w.heap[k]? = some (.cells c e fr) → ¬ S k) : Kp p w w' :=
  ⟨h.size, fun k c e fr hpk hk => h.block k _ (hp k c e fr hpk hk) hk⟩
def Blk (w : World) (g : Nat) (e : TypeId) (cs : List Value) : Prop := w.heap[g]? = some (.cells cs.toArray e (0, 0))
theorem Blk.lt {w : World} {g : Nat} {e : TypeId} {cs : List Value} (h : Blk w g e cs) : g < w.heap.size := lt_of_get h
theorem Blk.keep {p : Nat → TypeId → Prop} {w w' : World} {g : Nat} {e : TypeId} {cs : List Value} (h : Blk w g e cs) (hk : Kp p w w') (hp : p g e) : Blk w' g e cs := hk.cells g _ e _ hp h
theorem Blk.upd {S : Nat → Prop} {w w' : World} {g : Nat} {e : TypeId} {cs : List Value} (h : Blk w g e cs) (hk : Upd S w w') (hp : ¬ S g) : Blk w' g e cs := hk.block g _ hp h
theorem Blk.grow {w w' : World} {g : Nat} {e : TypeId} {cs : List Value} (h : Blk w g e cs) (hk : Grow w w') : Blk w' g e cs := hk.block g _ h
theorem Blk.sys {n : Nat} {w w' : World} {g : Nat} {e : TypeId} {cs : List Value} (h : Blk w g e cs) (hk : Sys n w w') : Blk w' g e cs := hk.block g _ h (.inr rfl)
theorem Blk.ne {w : World} {g g' : Nat} {e e' : TypeId} {cs cs' : List Value} (h : Blk w g e cs) (h' : Blk w g' e' cs') (hne : e ≠ e') : g ≠ g' := by
  intro e; subst e; unfold Blk at h h'; rw [h] at h'; simp at h'; exact hne h'.2
def Sli (p : Nat → TypeId → Prop) (w : World) (e : TypeId) (sz : Nat) (v : Value) (n : Nat) (cs : List Value) : Prop :=
  (cs.length = n * sz ∧ n ≤ 1099511627776) ∧ ((v = .slice none 0 0 ∧ n = 0) ∨
    ∃ g off cap, v = .slice (some ⟨g, off, none⟩) n cap ∧ n ≤ cap ∧ p g e ∧ ∃ c fr, w.heap[g]? = some (.cells c e fr) ∧ ∀ j u, cs[j]? = some u → c[off + j]? = some u)
theorem Sli.keep {p : Nat → TypeId → Prop} {w w' : World} {e : TypeId} {sz n : Nat} {v : Value} {cs : List Value} (h : Sli p w e sz v n cs) (hk : Kp p w w') : Sli p w' e sz v n cs := by
  refine ⟨h.1, ?_⟩
  rcases h.2 with h | ⟨g, off, cap, hv, hn, hp, c, fr, hg, hc⟩
  · exact .inl h
  · exact .inr ⟨g, off, cap, hv, hn, hp, c, fr, hk.cells g c e fr hp hg, hc⟩
theorem Sli.mono {p q : Nat → TypeId → Prop} {w : World} {e : TypeId} {sz n : Nat} {v : Value} {cs : List Value} (h : Sli p w e sz v n cs) (hq : ∀ k, k < w.heap.size → p k e → q k e) : Sli q w e sz v n cs := by
  refine ⟨h.1, ?_⟩
  rcases h.2 with h | ⟨g, off, cap, hv, hn, hp, c, fr, hg, hc⟩
  · exact .inl h
  · exact .inr ⟨g, off, cap, hv, hn, hq g (lt_of_get hg) hp, c, fr, hg, hc⟩
theorem Sli.nil {p : Nat → TypeId → Prop} {w : World} {e : TypeId} {sz : Nat} : Sli p w e sz (.slice none 0 0) 0 [] := ⟨by simp, .inl ⟨rfl, rfl⟩⟩
theorem Sli.shape {p : Nat → TypeId → Prop} {w : World} {e : TypeId} {sz n : Nat} {v : Value} {cs : List Value} (h : Sli p w e sz v n cs) : ∃ a cap, v = .slice a n cap ∧ n ≤ cap := by
  rcases h.2 with ⟨rfl, rfl⟩ | ⟨g, off, cap, rfl, hn, _⟩
  · exact ⟨none, 0, rfl, Nat.le_refl _⟩
  · exact ⟨_, cap, rfl, hn⟩
def Own (w : World) (base : Nat) (e : TypeId) (sz : Nat) (v : Value) (n : Nat) (xs : List Value) : Prop := w.ownsRow base e sz v n xs
theorem Own.nil (w : World) (base : Nat) (e : TypeId) (sz : Nat) : Own w base e sz (.slice none 0 0) 0 [] := World.ownsRow_nil w base e sz
theorem Own.sli {w : World} {base : Nat} {e : TypeId} {sz n : Nat} {v : Value} {xs : List Value} {p : Nat → TypeId → Prop} (h : Own w base e sz v n xs) (hn : n ≤ 1099511627776) (hp : ∀ g, base ≤ g → g < w.heap.size → p g e) : Sli p w e sz v n xs := by
  refine ⟨⟨h.1, hn⟩, ?_⟩
  rcases h.2 with h | ⟨g, cap, cur, hv, hb, hg, hn, _, hs, ht⟩
  · exact .inl h
  · refine .inr ⟨g, 0, cap, hv, hn, hp g hb (lt_of_get hg), cur, (0, 0), hg, fun j u hj => ?_⟩
    rw [← ht, List.getElem?_take] at hj
    split at hj
    · simpa using hj
    · cases hj
theorem Own.keep {w w' : World} {base : Nat} {e : TypeId} {sz n : Nat} {v : Value} {xs : List Value} (h : Own w base e sz v n xs) (hk : ∀ g cur, v.ownBlock = some g → w.heap[g]? = some (.cells cur e (0, 0)) → w'.heap[g]? = some (.cells cur e (0, 0))) : Own w' base e sz v n xs := by
  refine ⟨h.1, ?_⟩
  rcases h.2 with h | ⟨g, cap, cur, hv, hb, hg, hr⟩
  · exact .inl h
  · exact .inr ⟨g, cap, cur, hv, hb, hk g cur (by rw [hv]; rfl) hg, hr⟩
theorem Own.grow {w w' : World} {base : Nat} {e : TypeId} {sz n : Nat} {v : Value} {xs : List Value} (h : Own w base e sz v n xs) (hk : Grow w w') : Own w' base e sz v n xs := h.keep fun g _ _ hg => hk.block g _ hg
theorem Own.sys {m : Nat} {w w' : World} {base : Nat} {e : TypeId} {sz n : Nat} {v : Value} {xs : List Value} (h : Own w base e sz v n xs) (hk : Sys m w w') : Own w' base e sz v n xs := h.keep fun g _ _ hg => hk.block g _ hg (.inr rfl)
theorem Own.base {w : World} {base base' : Nat} {e : TypeId} {sz n : Nat} {v : Value} {xs : List Value} (h : Own w base e sz v n xs) (hb : base' ≤ base) : Own w base' e sz v n xs := by
  refine ⟨h.1, ?_⟩
  rcases h.2 with h | ⟨g, cap, cur, hv, hb', hr⟩
  · exact .inl h
  · exact .inr ⟨g, cap, cur, hv, Nat.le_trans hb hb', hr⟩
theorem Own.block {w : World} {base : Nat} {e : TypeId} {sz n : Nat} {v : Value} {xs : List Value} (h : Own w base e sz v n xs) : ∀ k, v.ownBlock = some k → base ≤ k ∧ k < w.heap.size := World.ownsRow.lt h
theorem Own.len {w : World} {base : Nat} {e : TypeId} {sz n : Nat} {v : Value} {xs : List Value} (h : Own w base e sz v n xs) : ∃ a cap, v = .slice a n cap := by
  rcases h.2 with ⟨rfl, rfl⟩ | ⟨g, cap, cur, hv, _⟩
  · exact ⟨none, 0, rfl⟩
  · exact ⟨_, cap, hv⟩
structure TI (P : Program) (t : TypeId) (sz : Nat) (agg : Bool) (zero : List Value) (bytes : Nat) : Prop where
  und : ∃ d, P.underlying t = some d ∧ (match d with | .struct _ | .array _ _ => true | _ => false) = agg
  info : ∃ i v, P.info? t = some i ∧ i.size = sz ∧ i.bytes = bytes ∧ i.zero = some v ∧ v.cells.toList = zero
def SL (P : Program) (t e : TypeId) : Prop := P.underlying t = some (.slice e)
def tiChk (P : Program) (t : TypeId) (sz : Nat) (agg : Bool) (zero : List Value) (bytes : Nat) : Bool :=
  aggChk P t agg && match P.info? t with | some i => i.size == sz && i.bytes == bytes && (match i.zero with | some v => eqVs v.cells.toList zero | none => false) | none => false
theorem TI.of_chk {P : Program} {t sz : Nat} {agg : Bool} {zero : List Value} {bytes : Nat} (h : tiChk P t sz agg zero bytes = true) : TI P t sz agg zero bytes := by
  unfold tiChk at h
  rw [Bool.and_eq_true] at h
  obtain ⟨h1, h2⟩ := h
  obtain ⟨d, hd, ha⟩ := aggChk_spec h1
  refine ⟨⟨d, hd, ha.symm⟩, ?_⟩
  split at h2
  · rename_i i hi
    simp only [Bool.and_eq_true, beq_iff_eq] at h2
    obtain ⟨⟨h3, h4⟩, h5⟩ := h2
    split at h5
    · rename_i v hv; exact ⟨i, v, hi, h3, h4, hv, eqVs_spec h5⟩
    · cases h5
  · cases h2
def slChk (P : Program) (t e : TypeId) : Bool := match P.underlying t with | some (.slice e') => e == e' | _ => false
theorem SL.of_chk {P : Program} {t e : Nat} (h : slChk P t e = true) : SL P t e := by
  unfold slChk at h
  split at h
  · rename_i e' he
    have : e = e' := by simpa using h
    subst this; exact he
  · cases h
section
variable {C : Ctx} {t : TypeId} {sz : Nat} {agg : Bool} {zero : List Value} {bytes : Nat} {w : World}
theorem TI.isAgg (h : TI C.P t sz agg zero bytes) (w : World) : (isAgg t).run C.P w = .ok agg w := by
  obtain ⟨d, hd, ha⟩ := h.und
  unfold Go.isAgg
  rw [Sem.run_bind, run_underlying hd w]
  cases d <;> simp_all
theorem TI.sizeOf (h : TI C.P t sz agg zero bytes) (w : World) : (Go.sizeOf t).run C.P w = .ok sz w := by
  obtain ⟨i, v, hi, hs, _⟩ := h.info
  simp [Go.sizeOf, typeInfo, hi, hs]
theorem addrAdd (g o i : Nat) : (⟨g, o, none⟩ : Addr).add i = ⟨g, o + i, none⟩ := by unfold Addr.add; split <;> simp_all
theorem cell_of_get {w : World} {g : Nat} {c : Array Value} {e : TypeId} {fr : Nat × Nat} (h : w.heap[g]? = some (.cells c e fr)) (o : Nat) : w.cell? ⟨g, o, none⟩ = c[o]? := by
  simp [World.cell?, h]
theorem run_loadVar1 (h : TI C.P t 1 false zero bytes) {g o : Nat} {v : Value} (hc : w.cell? ⟨g, o, none⟩ = some v) : (loadVar t ⟨g, o, none⟩).run C.P w = .ok v w := by
  simp [loadVar, Sem.run_bind, h.isAgg w, hc]
theorem run_loadVarN (h : TI C.P t sz true zero bytes) {g o : Nat} {cs : List Value} (hl : cs.length = sz) (hc : ∀ j u, cs[j]? = some u → w.cell? ⟨g, o + j, none⟩ = some u) : (loadVar t ⟨g, o, none⟩).run C.P w = .ok (.agg cs.toArray) w := by
  have hl' : (loadCells ⟨g, o, none⟩ cs.length).run C.P w = .ok cs.toArray w :=
    run_loadCells_list (P := C.P) w ⟨g, o, none⟩ cs (fun j v hv => by rw [addrAdd]; exact hc j v hv)
  rw [hl] at hl'
  simp [loadVar, Sem.run_bind, h.isAgg w, h.sizeOf w, hl']
theorem LoadP.one {k : Value → World → Prop} (h : TI C.P t 1 false zero bytes) {g o : Nat} {c : Array Value} {e : TypeId} {fr : Nat × Nat} {v : Value} (hg : w.heap[g]? = some (.cells c e fr)) (hc : c[o]? = some v) (hk : k v w) :
    LoadP C t (.pointer (some ⟨g, o, none⟩)) w k :=
  ⟨v, by simp [Instr.loadAt, Instr.sureAddr, run_loadVar1 h (by rw [cell_of_get hg]; exact hc)], hk⟩
theorem LoadP.many {k : Value → World → Prop} (h : TI C.P t sz true zero bytes) {g o : Nat} {c : Array Value} {e : TypeId} {fr : Nat × Nat} {cs : List Value} (hg : w.heap[g]? = some (.cells c e fr)) (hl : cs.length = sz)
    (hc : ∀ j u, cs[j]? = some u → c[o + j]? = some u) (hk : k (.agg cs.toArray) w) : LoadP C t (.pointer (some ⟨g, o, none⟩)) w k :=
  ⟨.agg cs.toArray, by simp [Instr.loadAt, Instr.sureAddr, run_loadVarN h hl (fun j u hu => by rw [cell_of_get hg]; exact hc j u hu)], hk⟩
theorem LoadP.var {k : Value → World → Prop} (h : TI C.P t 1 false zero bytes) {g : Nat} {e : TypeId} {v : Value} (hg : Blk w g e [v]) (hk : k v w) : LoadP C t (.pointer (some ⟨g, 0, none⟩)) w k :=
  LoadP.one h hg (by simp) hk
theorem LoadP.row {k : Value → World → Prop} (h : TI C.P t sz true zero bytes) {g : Nat} {e : TypeId} {cs : List Value} (hg : Blk w g e cs) (hl : cs.length = sz) (hk : k (.agg cs.toArray) w) : LoadP C t (.pointer (some ⟨g, 0, none⟩)) w k :=
  LoadP.many h hg hl (fun j u hu => by simpa using hu) hk
theorem setRow_upd {g : Nat} (cs : Array Value) : Upd (· = g) w (w.setRow g cs) := by
  refine ⟨rfl, rfl, rfl, by simp, fun k o hk ho => ?_⟩
  rw [setRow_other w g k cs hk]; exact ho
theorem setRow_nc {X : Option Nat} {g : Nat} {c cs : Array Value} {e : TypeId} {fr : Nat × Nat} (hg : w.heap[g]? = some (.cells c e fr)) : NC X w (w.setRow g cs) := by
  refine ⟨by simp, fun k o _ ho hr => ?_⟩
  by_cases e : k = g
  · subst e; rw [hg] at ho; cases ho; cases hr
  · rw [setRow_other w g k cs e]; exact ho
theorem StoreP.at {k : World → Prop} (h : TI C.P t sz agg zero bytes) {g o : Nat} {e : TypeId} {cs : List Value} {v : Value} (hg : Blk w g e cs) (hl : v.cells.size = sz) (hv : ∀ u ∈ v.cells.toList, u.oneCell' = true) (ho : o + sz ≤ cs.length)
    (hk : ∀ w', Upd (· = g) w w' → Blk w' g e (over cs o v.cells.toList) → k w') : StoreP C t (.pointer (some ⟨g, o, none⟩)) v w k := by
  have hst := run_storeCells_at C.P g o e v.cells.toList 0 cs.toArray w hg (by simp only [Array.length_toList, List.size_toArray]; omega) hv
  simp only [Nat.add_zero] at hst
  have hsz : ∀ w, (Go.sizeOf t).run C.P w = .ok sz w := h.sizeOf
  refine ⟨w.setRow g (over cs o v.cells.toList).toArray, ?_, setRow_nc hg, hk _ (setRow_upd _) (setRow_heap w g cs.toArray _ e (0, 0) hg)⟩
  simp only [Instr.storeAt, Instr.sureAddr, storeVar, Sem.run_bind, Sem.run_pure, Result.andThen_ok, hsz, hl, ne_eq, not_true_eq_false, if_false, hst]
  rfl
theorem StoreP.one {k : World → Prop} (h : TI C.P t 1 false zero bytes) {g o : Nat} {e : TypeId} {cs : List Value} {v : Value} (hg : Blk w g e cs) (hv : v.oneCell' = true) (ho : o < cs.length)
    (hk : ∀ w', Upd (· = g) w w' → Blk w' g e (cs.set o v) → k w') : StoreP C t (.pointer (some ⟨g, o, none⟩)) v w k := by
  have hc : v.cells = #[v] := by cases v <;> first | rfl | simp [Value.oneCell'] at hv
  refine StoreP.at h hg (by rw [hc]; rfl) (by rw [hc]; simpa using hv) (by omega) fun w' hu hb => hk w' hu ?_
  rw [hc] at hb
  have : over cs o [v] = cs.set o v := by
    unfold over
    simp only [List.length_cons, List.length_nil, Nat.zero_add]
    rw [List.set_eq_take_append_cons_drop]; simp [ho]
  rwa [this] at hb
theorem StoreP.var {k : World → Prop} (h : TI C.P t 1 false zero bytes) {g : Nat} {e : TypeId} {u v : Value} (hg : Blk w g e [u]) (hv : v.oneCell' = true)
    (hk : ∀ w', Upd (· = g) w w' → Blk w' g e [v] → k w') : StoreP C t (.pointer (some ⟨g, 0, none⟩)) v w k :=
  StoreP.one h hg hv (by simp) fun w' hu hb => hk w' hu (by simpa using hb)
theorem blk_alloc (cs : List Value) (e : TypeId) : Blk (w.alloc (.cells cs.toArray e)) w.heap.size e cs := World.alloc_heap_new w _
theorem AllocP.mk {k : Value → World → Prop} (h : TI C.P t sz agg zero bytes) (hk : ∀ g w', Grow w w' → w.heap.size ≤ g → g < w'.heap.size → Blk w' g t zero → k (.pointer (some ⟨g, 0, none⟩)) w') : AllocP C t w k := by
  obtain ⟨i, v, hi, _, _, hz, hzc⟩ := h.info
  refine ⟨.pointer (some ⟨w.heap.size, 0, none⟩), w.alloc (.cells v.cells t), ?_, (Grow.alloc w _).nc, ⟨_, rfl, Nat.le_refl _, by simp⟩, hk _ _ (Grow.alloc w _) (Nat.le_refl _) (by simp) ?_⟩
  · simp [Instr.alloc, zeroValue, typeInfo, hi, hz, newVar, newRow]
  · rw [← hzc]; have := blk_alloc (w := w) v.cells.toList t; simpa using this
theorem BoxP.mk {k : Value → World → Prop} {v : Value} (hk : ∀ g w', Grow w w' → w.heap.size ≤ g → g < w'.heap.size → Blk w' g t v.cells.toList → k (.pointer (some ⟨g, 0, none⟩)) w') : BoxP C t v w k := by
  refine ⟨.pointer (some ⟨w.heap.size, 0, none⟩), w.alloc (.cells v.cells t), ?_, (Grow.alloc w _).nc, ⟨_, rfl, Nat.le_refl _, by simp⟩, hk _ _ (Grow.alloc w _) (Nat.le_refl _) (by simp) ?_⟩
  · simp [Instr.box, newVar, newRow]
  · have := blk_alloc (w := w) v.cells.toList t; simpa using this
def rep (n : Nat) (z : List Value) : List Value := (List.replicate n z).flatten
theorem getElem?_rep (z : List Value) (hz : 0 < z.length) : ∀ (n i : Nat), (rep n z)[i]? = if i < n * z.length then z[i % z.length]? else none
  | 0, i => by simp [rep]
  | n + 1, i => by
    have e : rep (n + 1) z = z ++ rep n z := by simp [rep, List.replicate_succ]
    rw [e, List.getElem?_append, getElem?_rep z hz n]
    split
    · rename_i h
      rw [if_pos (by rw [Nat.add_mul]; omega), Nat.mod_eq_of_lt h]
    · rename_i h
      have e2 : i % z.length = (i - z.length) % z.length := by
        conv => lhs; rw [show i = (i - z.length) + z.length by omega]
        rw [Nat.add_mod_right]
      have : (n + 1) * z.length = n * z.length + z.length := by rw [Nat.add_mul]; omega
      by_cases h2 : i < (n + 1) * z.length
      · rw [if_pos (by omega), if_pos h2, e2]
      · rw [if_neg (by omega), if_neg h2]
theorem length_rep (n : Nat) (z : List Value) : (rep n z).length = n * z.length := by simp [rep]
theorem made_eq {z : List Value} {n : Nat} (hz : 0 < z.length) : (madeCells z.toArray (n * z.length)).toList = rep n z := by
  apply List.ext_getElem?
  intro i
  rw [getElem?_rep z hz]
  simp only [madeCells, Array.getElem?_toList, Array.getElem?_map, Array.getElem?_range]
  split
  · have hl : i % z.length < z.length := Nat.mod_lt _ hz
    simp [hl]
  · simp
theorem MakeP.mk {e : TypeId} {k : Value → World → Prop} (hs : SL C.P t e) (h : TI C.P e sz agg zero bytes) (hz : zero.length = sz) (hp : 0 < sz) {kl kc : IntKind} {n : Nat} (hb : n * bytes ≤ 281474976710656) (hn : n ≤ maxLen)
    (hk : ∀ g w', Grow w w' → w.heap.size ≤ g → g < w'.heap.size → Blk w' g e (rep n zero) → k (.slice (some ⟨g, 0, none⟩) n n) w') : MakeP C t (.int kl n) (.int kc n) w k := by
  obtain ⟨i, v, hi, hsz, hby, hzv, hzc⟩ := h.info
  have hr := run_make (P := C.P) w t e i v hs hi hzv kl kc n n (by omega) (Int.le_refl _) (by rw [hby]; have : ((n * bytes : Nat) : Int) ≤ 281474976710656 := by omega
                                                                                              rw [Int.natCast_mul] at this; rw [Int.mul_comm]; exact this) (by simp only [maxLen] at hn; omega)
  simp only [Int.toNat_natCast] at hr
  refine ⟨_, _, hr, (Grow.alloc w _).nc, ⟨_, rfl, Nat.le_refl _, by simp⟩, hk _ _ (Grow.alloc w _) (Nat.le_refl _) (by simp) ?_⟩
  have := blk_alloc (w := w) (madeCells v.cells (n * i.size)).toList e
  rw [hsz] at this ⊢
  have hm := made_eq (z := zero) (n := n) (by omega)
  rw [hz] at hm
  have hv : v.cells = zero.toArray := by rw [← hzc]
  rw [hv] at this ⊢
  rw [hm] at this
  have e2 : madeCells zero.toArray (n * sz) = (rep n zero).toArray := by rw [← hm]
  rw [e2]; exact this
end
end Go.Vc
namespace Go.Vc
open Go
section
variable {C : Ctx} {t e : TypeId} {sz : Nat} {agg : Bool} {zero : List Value} {bytes : Nat} {w : World}
theorem LitP.mk {k : Value → World → Prop} (hs : SL C.P t e) (h : TI C.P e sz agg zero bytes) (hz : zero.length = sz) (hp : 0 < sz) {n : Nat} {ps : List (Nat × Value)} (hn : n * sz ≤ 16777216) {cs : List Value}
    (hf : fillV (fun i => some (i * sz, sz)) (rep n zero) ps = some cs)
    (hk : ∀ g w', Grow w w' → w.heap.size ≤ g → g < w'.heap.size → Blk w' g e cs → k (.slice (some ⟨g, 0, none⟩) n n) w') : LitP C t n ps w k := by
  obtain ⟨i, v, hi, rfl, hby, hzv, hzc⟩ := h.info
  have hv : v.cells = zero.toArray := by rw [← hzc]
  have hm := made_eq (z := zero) (n := n) (by omega)
  rw [hz] at hm
  have hfill : Instr.fill (fun j => some (j * i.size, i.size)) (madeCells zero.toArray (n * i.size)) ps = some cs.toArray := by
    refine fill_sound (place := fun j => some (j * i.size, i.size)) (fun _ _ h => h) ps _ _ ?_
    rw [hm]; exact hf
  refine ⟨.slice (some ⟨w.heap.size, 0, none⟩) n n, w.alloc (.cells cs.toArray e), ?_, (Grow.alloc w _).nc, ⟨_, rfl, Nat.le_refl _, by simp⟩, hk _ _ (Grow.alloc w _) (Nat.le_refl _) (by simp) (blk_alloc cs e)⟩
  have hn' : ¬ 16777216 < n * i.size := by omega
  unfold madeCells at hfill
  by_cases h0 : n * i.size = 0
  · have h00 : n = 0 := by rcases Nat.mul_eq_zero.1 h0 with h | h <;> omega
    subst h00
    simp only [Nat.zero_mul, Array.range_zero', List.map_toArray, List.map_nil] at hfill
    simp [Instr.buildSlice, run_underlying hs, Go.sizeOf, typeInfo, hi, Array.range_zero', hfill, newRow]
  · simp only [List.getElem!_toArray, List.size_toArray] at hfill
    simp [Instr.buildSlice, run_underlying hs, Go.sizeOf, typeInfo, hi, hn', h0, zeroValue, hzv, hv]
    simp at hfill
    simp [hfill, newRow]
theorem AppendP.own {k : Value → World → Prop} (hs : SL C.P t e) (h : TI C.P e sz agg zero bytes) (hz : zero.length = sz) (hp : 0 < sz) {base n : Nat} {v : Value} {xs : List Value} (ho : Own w base e sz v n xs)
    {p : Nat → TypeId → Prop} {v2 : Value} {m : Nat} {news : List Value} (h2 : Sli p w e sz v2 m news) (h1 : ∀ u ∈ news, u.oneCell' = true) (hb : (n + m) * bytes ≤ 140737488355328) (hm : n + m ≤ maxLen) (hw : base ≤ w.heap.size)
    (hk : ∀ v' w', Own w' base e sz v' (n + m) (xs ++ news) → Upd (fun g => v.ownBlock = some g) w w' → (∀ g, v'.ownBlock = some g → v.ownBlock = some g ∨ w.heap.size ≤ g) → k v' w') : AppendP C #[t, t] t [v, v2] w k := by
  obtain ⟨i, z, hi, hsz, hby, hzv, hzc⟩ := h.info
  have hzs : z.cells.size = sz := by rw [← hz, ← hzc]; simp
  have nc : ∀ {w' : World}, w.grownBy w' v.ownBlock → NC C.X w w' := by
    intro w' hg
    refine ⟨hg.size, fun k o _ hko hr => ?_⟩
    rw [hg.block k (lt_of_get hko) ?_]; · exact hko
    intro e
    rcases ho.2 with ⟨rfl, _⟩ | ⟨g, cap, cur, rfl, _, hgg, _⟩
    · simp [Value.ownBlock] at e
    · simp [Value.ownBlock] at e
      subst e
      rw [hgg] at hko; cases hko; cases hr
  have upd : ∀ {w' : World}, w.grownBy w' v.ownBlock → Upd (fun g => v.ownBlock = some g) w w' := fun hg =>
    ⟨hg.os, hg.tape, hg.output, hg.size, fun k o hS hko => by rw [hg.block k (lt_of_get hko) (fun e => hS e.symm)]; exact hko⟩
  rcases h2.2 with ⟨rfl, rfl⟩ | ⟨g, off, cap, rfl, hcap, _, c, fr, hg, hc⟩
  · have hn : news = [] := List.eq_nil_of_length_eq_zero (by simpa using h2.1.1)
    subst hn
    have hr := run_append_owned_none (P := C.P) w base t t e i sz hs hi v n xs ho
    exact ⟨v, w, hr, NC.refl _ _, hk v w (by simpa using ho) (Upd.refl _ _) (fun g h => .inl h)⟩
  · have hnews : ∀ j u, news[j]? = some u → w.cell? ((⟨g, off, none⟩ : Addr).add j) = some u := fun j u hu => by rw [addrAdd, cell_of_get hg]; exact hc j u hu
    rcases ho.2 with ⟨rfl, rfl⟩ | ⟨g0, cap0, cur, rfl, hb0, hg0, hn0, hm0, hs0, ht0⟩
    · have hx : xs = [] := List.eq_nil_of_length_eq_zero (by simpa using ho.1)
      subst hx
      obtain ⟨v', w', hr, ho', hg', hnil⟩ := run_append_own (P := C.P) w w.heap.size t t e i z sz bytes hs hi hzv hsz hby hzs hp (.slice none 0 0) 0 [] (World.ownsRow_nil w _ e sz) ⟨g, off, none⟩ m cap news h2.1.1
        hnews h1 hm hb (Nat.le_refl _)
      exact ⟨v', w', hr, nc hg', hk v' w' (Own.base ho' hw) (upd hg') fun g' hgv => .inr (Own.block ho' g' hgv).1⟩
    · by_cases hroom : n + m ≤ cap0
      · obtain ⟨w', hr, ho', hg'⟩ := run_append_fits (P := C.P) w base t t e i sz hs hi hsz g0 n cap0 xs ho ⟨g, off, none⟩ m cap news h2.1.1 hnews h1 hroom
        exact ⟨_, w', hr, nc hg', hk _ w' ho' (upd hg') fun g' hgv => .inl hgv⟩
      · obtain ⟨v', w', hr, ho', hg', hnil⟩ := run_append_own (P := C.P) w base t t e i z sz bytes hs hi hzv hsz hby hzs hp _ n xs ho ⟨g, off, none⟩ m cap news h2.1.1 hnews h1 hm hb hw
        refine ⟨v', w', hr, nc hg', hk v' w' ho' (upd hg') fun g' hgv => .inr ?_⟩
        subst hsz
        subst hby
        have hgr := run_append_grow (P := C.P) w t t e i z hs hi hzv ⟨g0, 0, none⟩ n cap0 xs ho.1 (fun j u hu => World.ownsRow.cells ho (g := g0) rfl j u hu) ⟨g, off, none⟩ m cap news h2.1.1 hnews (by omega)
          (by simp only [maxLen] at hm; omega) (growslice_fits (by omega) hb)
        rw [hgr] at hr
        simp only [Result.ok.injEq] at hr
        rw [← hr.1] at hgv
        simp [Value.ownBlock] at hgv
        omega
theorem Own.lit {base n g : Nat} {cs : List Value} (hb : Blk w g e cs) (hl : cs.length = n * sz) (hg : base ≤ g) (hn : n ≤ maxLen) : Own w base e sz (.slice (some ⟨g, 0, none⟩) n n) n cs :=
  ⟨hl, .inr ⟨g, n, cs.toArray, rfl, hg, hb, Nat.le_refl _, hn, by simpa using hl, by rw [← hl]; simp⟩⟩
theorem EqP.sliceNil {k : Value → World → Prop} (hs : SL C.P t e) {x y : Operand} {a : Option Addr} {n c : Nat} (hk : k (.bool a.isNone) w) : EqP C .eql t x y (.slice a n c) (.slice none 0 0) w k := by
  have h2 : (Op.equal t (.slice a n c) (.slice none 0 0)).run C.P w = .ok a.isNone w := by
    show (Op.equalIn (9999 + 1) t (.slice a n c) (.slice none 0 0)).run C.P w = _
    rw [Op.equalIn, Sem.run_bind, run_underlying hs]
    cases a <;> rfl
  refine ⟨_, w, ?_, NC.refl _ _, hk⟩
  show (do pure (Value.bool (← Op.equal t (.slice a n c) (.slice none 0 0))) : Sem Value).run C.P w = _
  rw [Sem.run_bind, h2]
  rfl
theorem CallP.mono {f : FuncId} {args : List Value} {k k' : Value → World → Prop} (h : CallP C f args w k) (hk : ∀ v w', k v w' → k' v w') : CallP C f args w k' := by
  refine Calls.mono h ?_
  rintro e w' ⟨v, rfl, hn, hkv⟩
  exact ⟨v, rfl, hn, hk v w' hkv⟩
theorem callV.func {f : FuncId} {cap : Array Value} {args : List Value} {k : Value → World → Prop} (hb : C.B f = true) (h : CallP C f (args ++ cap.toList) w k) : callV C (.func (.func f) #[] cap) args w k := by
  refine ⟨hb, ?_⟩
  simpa using h
end
theorem over_nil_left (vs cs : List Value) (h : cs.length ≤ vs.length) : over cs 0 vs = vs := by
  unfold over; simp; omega
end Go.Vc
namespace Go.Vc
open Go
theorem px {α : Type} {o : Option α} {v : α} {P : α → Prop} (h : o = some v) (hp : P v) : ∃ x, o = some x ∧ P x := ⟨v, h, hp⟩
theorem wrap_i64 {x : Int} (h : -9223372036854775808 ≤ x ∧ x < 9223372036854775808) : IntKind.i64.wrap x = x := by rw [IntKind.wrap_i64]; omega
theorem wrap_u32_mod (x : Int) : IntKind.u32.wrap x = x % 4294967296 := by simp [IntKind.wrap, IntKind.bits, IntKind.signed]
theorem wrap_u64_mod (x : Int) : IntKind.u64.wrap x = x % 18446744073709551616 := by simp [IntKind.wrap, IntKind.bits, IntKind.signed]
theorem wrap_u32 {x : Int} (h : 0 ≤ x ∧ x < 4294967296) : IntKind.u32.wrap x = x := by rw [wrap_u32_mod]; omega
theorem wrap_u64 {x : Int} (h : 0 ≤ x ∧ x < 18446744073709551616) : IntKind.u64.wrap x = x := by rw [wrap_u64_mod]; omega
theorem pi {o : Option Value} {x : Int} {P : Value → Prop} (h : o = some (.int .i64 (IntKind.i64.wrap x))) (hx : -9223372036854775808 ≤ x ∧ x < 9223372036854775808) (hp : P (.int .i64 x)) : ∃ v, o = some v ∧ P v :=
  ⟨_, h, by rw [wrap_i64 hx]; exact hp⟩
theorem pu {o : Option Value} {x : Int} {P : Value → Prop} (h : o = some (.int .u64 (IntKind.u64.wrap x))) (hx : 0 ≤ x ∧ x < 18446744073709551616) (hp : P (.int .u64 x)) : ∃ v, o = some v ∧ P v :=
  ⟨_, h, by rw [wrap_u64 hx]; exact hp⟩
theorem pwm {o : Option Value} {x : Int} {P : Value → Prop} (h : o = some (.int .u32 (IntKind.u32.wrap x))) (hp : P (.int .u32 (x % 4294967296))) : ∃ v, o = some v ∧ P v :=
  ⟨_, h, by rw [wrap_u32_mod]; exact hp⟩
theorem cT {c : Bool} {a b : Prop} (h : c = true) (ha : a) : CondP (.bool c) a b := ⟨c, rfl, fun _ => ha, fun h' => by rw [h] at h'; cases h'⟩
theorem cF {c : Bool} {a b : Prop} (h : c = false) (hb : b) : CondP (.bool c) a b := ⟨c, rfl, fun h' => by (rw [h] at h'; cases h'), fun _ => hb⟩
theorem cD {c : Prop} [Decidable c] {a b : Prop} (ha : c → a) (hb : ¬ c → b) : CondP (.bool (decide c)) a b := ⟨_, rfl, fun h => ha (by simpa using h), fun h => hb (by simpa using h)⟩
theorem cB {c : Bool} {a b : Prop} (ha : c = true → a) (hb : c = false → b) : CondP (.bool c) a b := ⟨c, rfl, ha, hb⟩
def vlen : Value → Nat | .slice _ n _ => n | _ => 0
def vint : Value → Int | .int _ n => n | _ => 0
@[simp] theorem vlen_slice (a : Option Addr) (n c : Nat) : vlen (.slice a n c) = n := rfl
@[simp] theorem vint_int (k : IntKind) (n : Int) : vint (.int k n) = n := rfl
section
variable {C : Ctx} {p : Nat → TypeId → Prop} {w : World} {e t : TypeId} {sz n : Nat} {v : Value} {cs : List Value} {zero : List Value} {bytes : Nat}
theorem Sli.lim (h : Sli p w e sz v n cs) : n ≤ 1099511627776 := h.1.2
theorem Sli.length (h : Sli p w e sz v n cs) : cs.length = n * sz := h.1.1
theorem Sli.len (h : Sli p w e sz v n cs) : lenV (.slice sz) v = some (.int .i64 n) := by
  obtain ⟨a, cap, rfl, _⟩ := h.shape; rfl
theorem Sli.addr (h : Sli p w e sz v n cs) {k : IntKind} {i : Nat} (hi : i < n) :
    ∃ g off c fr, indexAddrV (.slice sz) v (.int k i) = some (.pointer (some ⟨g, off + i * sz, none⟩)) ∧ w.heap[g]? = some (.cells c e fr) ∧ p g e ∧ ∀ j u, cs[j]? = some u → c[off + j]? = some u := by
  rcases h.2 with ⟨rfl, rfl⟩ | ⟨g, off, cap, rfl, hn, hp, c, fr, hg, hc⟩
  · omega
  · refine ⟨g, off, c, fr, ?_, hg, hp, hc⟩
    have e : indexAddrV (.slice sz) (.slice (some ⟨g, off, none⟩) n cap) (.int k i) = (if i < n then (plus ⟨g, off, none⟩ (i * sz)).map fun a => Value.pointer (some a) else none) := rfl
    rw [e, if_pos hi]; rfl
theorem Sli.idx (h : Sli p w e sz v n cs) {k : IntKind} {i : Nat} (hi : i < n) : ∃ x, indexAddrV (.slice sz) v (.int k i) = some x := by
  obtain ⟨g, off, c, fr, h1, _⟩ := h.addr (k := k) hi
  exact ⟨_, h1⟩
theorem Sli.load1 (h : Sli p w e 1 v n cs) (ht : TI C.P t 1 false zero bytes) {k : IntKind} {i : Nat} {x u : Value} (hx : indexAddrV (.slice 1) v (.int k i) = some x) (hu : cs[i]? = some u) {K : Value → World → Prop} (hk : K u w) : LoadP C t x w K := by
  have hi : i < n := by have := (List.getElem?_eq_some_iff.1 hu).1; have := h.length; omega
  obtain ⟨g, off, c, fr, h1, hg, hp, hc⟩ := h.addr (k := k) hi
  rw [h1] at hx; cases hx
  exact LoadP.one ht hg (by rw [Nat.mul_one]; exact hc i u hu) hk
theorem Sli.loadN (h : Sli p w e sz v n cs) (ht : TI C.P t sz true zero bytes) {k : IntKind} {i : Nat} {x : Value} (hx : indexAddrV (.slice sz) v (.int k i) = some x) (hi : i < n) {K : Value → World → Prop}
    (hk : K (.agg (cut cs (i * sz) sz).toArray) w) : LoadP C t x w K := by
  obtain ⟨g, off, c, fr, h1, hg, hp, hc⟩ := h.addr (k := k) hi
  rw [h1] at hx; cases hx
  have hl := h.length
  have hle : i * sz + sz ≤ n * sz := by rw [← Nat.succ_mul]; exact Nat.mul_le_mul_right _ hi
  refine LoadP.many ht hg ?_ ?_ hk
  · simp [cut]; omega
  · intro j u hu
    simp only [cut, List.getElem?_take] at hu
    split at hu
    · rw [Nat.add_assoc]; exact hc _ u (by rw [← hu, List.getElem?_drop])
    · cases hu
theorem Sli.part (h : Sli p w e sz v n cs) {lo hi : Nat} (h1 : lo ≤ hi) (h2 : hi ≤ n) (h3 : lo = 0 ∨ lo < n) {L H : Option Value} (hL : (match L with | none => some 0 | some v => natV v) = some lo) (hH : (match H with | none => some n | some v => natV v) = some hi) :
    ∃ x, sliceV (.slice sz) v L H = some x ∧ Sli p w e sz x (hi - lo) (cut cs (lo * sz) ((hi - lo) * sz)) := by
  have hlen : (cut cs (lo * sz) ((hi - lo) * sz)).length = (hi - lo) * sz := by
    have hl := h.length
    have : lo * sz + (hi - lo) * sz ≤ n * sz := by rw [← Nat.add_mul]; exact Nat.mul_le_mul_right _ (by omega)
    simp [cut]; omega
  have hlim : hi - lo ≤ 1099511627776 := by have := h.lim; omega
  rcases h.2 with ⟨rfl, rfl⟩ | ⟨g, off, cap, rfl, hn, hp, c, fr, hg, hc⟩
  · have e1 : hi = 0 := by omega
    have e2 : lo = 0 := by omega
    subst e1; subst e2
    refine ⟨.slice none 0 0, ?_, ⟨⟨hlen, hlim⟩, .inl ⟨rfl, rfl⟩⟩⟩
    cases L <;> cases H <;> simp only at hL hH <;> simp [sliceV, hL, hH]
  · by_cases h0 : lo = 0
    · subst h0
      refine ⟨.slice (some ⟨g, off, none⟩) hi cap, ?_, ⟨⟨hlen, hlim⟩, .inr ⟨g, off, cap, rfl, by omega, hp, c, fr, hg, fun j u hu => hc j u ?_⟩⟩⟩
      · have hle : hi ≤ cap := by omega
        cases L <;> cases H <;> simp only [Option.some.injEq] at hL hH <;> simp [sliceV, hL, hH, hle]
        all_goals omega
      · simp only [cut, List.getElem?_take] at hu
        split at hu
        · rw [List.getElem?_drop] at hu; simpa using hu
        · cases hu
    · refine ⟨.slice (some ⟨g, off + lo * sz, none⟩) (hi - lo) (cap - lo), ?_, ⟨⟨hlen, hlim⟩, .inr ⟨g, _, _, rfl, by omega, hp, c, fr, hg, fun j u hu => ?_⟩⟩⟩
      · have hle : hi ≤ cap := by omega
        have hlt : lo < cap := by omega
        cases L <;> cases H <;> simp only [Option.some.injEq] at hL hH <;> try omega
        all_goals (simp only [sliceV, hL, hH]; subst_vars; simp [plus?, plus, h1, hle, h0, hlt])
      · simp only [cut, List.getElem?_take] at hu
        split at hu
        · rw [Nat.add_assoc]; exact hc _ u (by rw [List.getElem?_drop] at hu; exact hu)
        · cases hu
end
end Go.Vc
namespace Go.Vc
open Go
structure Mod (g : Nat) (e : TypeId) (a b : World) : Prop where
  upd : Upd (· = g) a b
  kp : Kp (fun k e' => e' ≠ e ∨ k ≠ g) a b
theorem Mod.grow {g : Nat} {e : TypeId} (a b : World) (h : Grow a b) : Mod g e a b := ⟨h.upd, h.kp⟩
theorem Mod.trans {g : Nat} {e : TypeId} (a b c : World) (h : Mod g e a b) (h' : Mod g e b c) : Mod g e a c := ⟨h.upd.trans h'.upd, h.kp.trans h'.kp⟩
theorem Mod.of {g : Nat} {e : TypeId} {a b : World} {cs : List Value} (h : Upd (· = g) a b) (hb : Blk a g e cs) : Mod g e a b := by
  refine ⟨h, h.kp fun k c e' fr hp hk hkg => ?_⟩
  subst hkg
  unfold Blk at hb
  rw [hb] at hk
  simp at hk
  rcases hp with hp | hp
  · exact hp hk.2.1.symm
  · exact hp rfl
theorem Mod.new {g : Nat} {e : TypeId} {a b c : World} (h : Grow a b) (h' : Mod g e b c) (hg : a.heap.size ≤ g) : Grow a c := h.upd_new h'.upd (fun k hk => by subst hk; exact hg)
theorem Blk.mod {g g' : Nat} {e e' : TypeId} {cs : List Value} {w w' : World} (h : Blk w g e cs) (hm : Mod g' e' w w') (hne : g ≠ g') : Blk w' g e cs := h.keep hm.kp (.inr hne)
theorem Sli.mod {p : Nat → TypeId → Prop} {w w' : World} {e e' : TypeId} {sz n g : Nat} {v : Value} {cs : List Value} (h : Sli p w e sz v n cs) (hm : Mod g e' w w') (he : e ≠ e') : Sli p w' e sz v n cs := by
  refine ⟨h.1, ?_⟩
  rcases h.2 with h | ⟨g, off, cap, hv, hn, hp, c, fr, hg, hc⟩
  · exact .inl h
  · exact .inr ⟨g, off, cap, hv, hn, hp, c, fr, hm.kp.cells g c e fr (.inl he) hg, hc⟩
section
variable {C : Ctx} {w : World} {t e : TypeId} {g o : Nat} {cs : List Value} {v : Value} {zero : List Value} {bytes : Nat} {K : Value → World → Prop}
theorem LoadP.fld (hb : Blk w g e cs) (ht : TI C.P t 1 false zero bytes) (ho : cs[o]? = some v) (hk : K v w) : LoadP C t (.pointer (some ⟨g, o, none⟩)) w K :=
  LoadP.one ht hb (by simpa using ho) hk
theorem LoadP.flds {sz : Nat} (hb : Blk w g e cs) (ht : TI C.P t sz true zero bytes) (ho : o + sz ≤ cs.length) (hk : K (.agg (cut cs o sz).toArray) w) : LoadP C t (.pointer (some ⟨g, o, none⟩)) w K := by
  refine LoadP.many ht hb (by simp [cut]; omega) (fun j u hu => ?_) hk
  simp only [cut, List.getElem?_take] at hu
  split at hu
  · rw [List.getElem?_drop] at hu; simpa using hu
  · cases hu
theorem res_row {P : Program} {sz : Nat} (ht : TI P t sz true zero bytes) (hb : Blk w g e cs) (hl : cs.length = sz) : (loadVar t ⟨g, 0, none⟩).run P w = .ok (.agg cs.toArray) w :=
  run_loadVarN (C := ⟨P, fun _ => .other, fun _ => false, none⟩) ht hl (fun j u hu => by rw [cell_of_get hb]; simpa using hu)
theorem res_one {P : Program} (ht : TI P t 1 false zero bytes) (hb : Blk w g e [v]) : (loadVar t ⟨g, 0, none⟩).run P w = .ok v w :=
  run_loadVar1 (C := ⟨P, fun _ => .other, fun _ => false, none⟩) ht (by rw [cell_of_get hb]; simp)
theorem StoreP.row {C : Ctx} {w : World} {t e : TypeId} {g sz : Nat} {old : List Value} {cs : List Value} {zero : List Value} {bytes : Nat} {k : World → Prop} (hb : Blk w g e old) (ht : TI C.P t sz true zero bytes) (ho : old.length = sz) (hl : cs.length = sz)
    (h1 : ∀ u ∈ cs, u.oneCell' = true) (hk : ∀ w', Upd (· = g) w w' → Blk w' g e cs → k w') : StoreP C t (.pointer (some ⟨g, 0, none⟩)) (.agg cs.toArray) w k := by
  refine StoreP.at ht hb (by simpa [Value.cells] using hl) (by simpa [Value.cells] using h1) (by omega) fun w' hu hb' => hk w' hu ?_
  have e : over old 0 (Value.agg cs.toArray).cells.toList = cs := by
    rw [over_nil_left _ _ (by simp [Value.cells]; omega)]; simp [Value.cells]
  rw [e] at hb'; exact hb'
end
end Go.Vc
namespace Go.Vc
open Go
structure Zone (base : Nat) (q : Nat → TypeId → Prop) (a b : World) : Prop where
  upd : Upd (fun k => base ≤ k) a b
  kp : Kp (fun k e => k < base ∨ q k e) a b
section
variable {base : Nat} {q : Nat → TypeId → Prop} {a b c : World}
theorem Zone.grow (h : Grow a b) : Zone base q a b := ⟨h.upd, h.kp⟩
theorem Zone.trans (h : Zone base q a b) (h' : Zone base q b c) : Zone base q a c := ⟨h.upd.trans h'.upd, h.kp.trans h'.kp⟩
theorem Zone.refl (a : World) : Zone base q a a := Zone.grow (Grow.refl a)
theorem Zone.of {g : Nat} {e : TypeId} {cs : List Value} (h : Upd (· = g) a b) (hb : Blk a g e cs) (hg : base ≤ g) (he : ¬ q g e) : Zone base q a b := by
  refine ⟨h.mono fun k hk => by subst hk; exact hg, h.kp fun k c e' fr hp hk hkg => ?_⟩
  subst hkg
  unfold Blk at hb
  rw [hb] at hk
  simp at hk
  rcases hp with hp | hp
  · omega
  · exact he (hk.2.1 ▸ hp)
theorem Zone.own {e : TypeId} {sz n : Nat} {v : Value} {xs : List Value} (h : Upd (fun g => v.ownBlock = some g) a b) (ho : Own a base e sz v n xs) (he : ∀ k, v.ownBlock = some k → ¬ q k e) : Zone base q a b := by
  refine ⟨h.mono fun k hk => (ho.block k hk).1, h.kp fun k c e' fr hp hk hkg => ?_⟩
  have he' := he k hkg
  rcases ho.2 with ⟨rfl, _⟩ | ⟨g, cap, cur, rfl, hb, hgg, _⟩
  · simp [Value.ownBlock] at hkg
  · simp [Value.ownBlock] at hkg
    subst hkg
    rw [hgg] at hk
    simp at hk
    rcases hp with hp | hp
    · omega
    · exact he' (hk.2.1 ▸ hp)
theorem Zone.sys {n : Nat} (h : Sys n a b) (hn : base ≤ n) : Zone base q a b :=
  ⟨⟨h.os, h.tape, h.output, h.size, fun k o hk ho => h.block k o ho (.inl (by omega))⟩, h.kp⟩
theorem Zone.new (h : Grow a b) (h' : Zone base q b c) (hb : a.heap.size ≤ base) : Grow a c := h.upd_new h'.upd fun k hk => by omega
theorem Zone.size (h : Zone base q a b) : a.heap.size ≤ b.heap.size := h.upd.size
theorem Blk.zone {g : Nat} {e : TypeId} {cs : List Value} (h : Blk a g e cs) (hz : Zone base q a b) (hg : g < base ∨ q g e) : Blk b g e cs := h.keep hz.kp hg
theorem Sli.zone {p : Nat → TypeId → Prop} {e : TypeId} {sz n : Nat} {v : Value} {cs : List Value} (h : Sli p a e sz v n cs) (hz : Zone base q a b) (hp : ∀ k, p k e → k < base ∨ q k e) : Sli p b e sz v n cs := by
  refine ⟨h.1, ?_⟩
  rcases h.2 with h | ⟨g, off, cap, hv, hn, hpg, c, fr, hg, hc⟩
  · exact .inl h
  · exact .inr ⟨g, off, cap, hv, hn, hpg, c, fr, hz.kp.cells g c e fr (hp g hpg) hg, hc⟩
end
end Go.Vc
namespace Go.Vc
open Go
def MapObj (w : World) (g : Nat) (es : Array MapEntry) (c : Nat) : Prop := w.heap[g]? = some (.map es c)
theorem MapObj.upd {S : Nat → Prop} {w w' : World} {g : Nat} {es : Array MapEntry} {c : Nat} (h : MapObj w g es c) (hu : Upd S w w') (hs : ¬ S g) : MapObj w' g es c := hu.block g _ hs h
structure MapTy (P : Program) (t kt et : TypeId) (d : TypeDesc) : Prop where
  und : P.underlying t = some (.map kt et)
  key : P.underlying kt = some d
  flat : d = .string ∨ ∃ k, d = .int k
def mapChk (P : Program) (t kt et : TypeId) (d : TypeDesc) : Bool := match P.underlying t with
  | some (.map a b) => a == kt && b == et && (match P.underlying kt, d with | some .string, .string => true | some (.int k), .int k' => k == k' | _, _ => false)
  | _ => false
theorem MapTy.of_chk {P : Program} {t kt et : Nat} {d : TypeDesc} (h : mapChk P t kt et d = true) : MapTy P t kt et d := by
  unfold mapChk at h
  split at h
  · rename_i a b hab
    simp only [Bool.and_eq_true, beq_iff_eq] at h
    obtain ⟨⟨rfl, rfl⟩, h⟩ := h
    split at h
    · rename_i hk; exact ⟨hab, hk, .inl rfl⟩
    · rename_i k k' hk
      have : k = k' := by simpa using h
      subst this; exact ⟨hab, hk, .inr ⟨_, rfl⟩⟩
    · cases h
  · cases h
section
variable {C : Ctx} {w : World} {t kt et : TypeId} {d : TypeDesc} {g c : Nat} {es : Array MapEntry} {key val : Value}
theorem MapTy.check {P : Program} (h : MapTy P t kt et d) (b : Bool) (key : Value) (w : World) : (Instr.checkKey b 10000 kt key).run P w = .ok () w := by
  show (Instr.checkKey b (9999 + 1) kt key).run P w = _
  rw [Instr.checkKey, Sem.run_bind, run_underlying h.key]
  rcases h.flat with rfl | ⟨k, rfl⟩ <;> rfl
theorem MapTy.find {P : Program} (h : MapTy P t kt et d) {l : List MapEntry} {r : Option (Nat × Value)} (hf : Instr.findNow d key l 0 = some r) (w : World) : (Instr.findKey kt key l).run P w = .ok r w := by
  unfold Instr.findKey
  rw [Sem.run_bind, run_underlying h.key]
  simp only [Result.andThen_ok, hf]
  rfl
theorem MakeMapP.mk {k : Value → World → Prop} (hk : ∀ g w', Grow w w' → w.heap.size ≤ g → g < w'.heap.size → MapObj w' g #[] 0 → k (.map (some g)) w') : MakeMapP C t none w k := by
  refine ⟨.map (some w.heap.size), w.alloc (.map #[] 0), ?_, (Grow.alloc w _).nc, hk _ _ (Grow.alloc w _) (Nat.le_refl _) (by simp) (World.alloc_heap_new w _)⟩
  simp [Instr.makeMap]
theorem putObj_upd {o : Obj} : Upd (· = g) w (w.putObj g o) := by
  refine ⟨rfl, rfl, rfl, by simp, fun k x hk ho => ?_⟩
  rw [World.putObj_heap_other hk]; exact ho
theorem InsertP.new {k : World → Prop} (h : MapTy C.P t kt et d) (hm : MapObj w g es c) (hf : Instr.findNow d key es.toList 0 = some none)
    (hk : ∀ w', Upd (· = g) w w' → MapObj w' g (es.push ⟨key, val, c⟩) (c + 1) → k w') : InsertP C t (.map (some g)) key val w k := by
  refine ⟨w.putObj g (.map (es.push ⟨key, val, c⟩) (c + 1)), ?_, ⟨by simp, fun k' o _ ho hr => ?_⟩, hk _ putObj_upd (World.putObj_heap_same (lt_of_get hm))⟩
  · have hget : (getObj g).run C.P w = .ok (.map es c) w := by
      unfold MapObj at hm
      simp [getObj, Sem.run, hm]
    unfold Instr.mapUpdate
    rw [Sem.run_bind, run_underlying h.und]
    simp only [Result.andThen_ok]
    rw [Sem.run_bind, hget]
    simp only [Result.andThen_ok]
    rw [Sem.run_bind, h.check false key w]
    simp only [Result.andThen_ok]
    rw [Sem.run_bind, h.find hf w]
    have hlt := lt_of_get hm
    have he : w.heap[g] = .map es c := (Array.getElem?_eq_some_iff.1 hm).2
    simp [setObj, Sem.run, hlt, he]
    rfl
  · by_cases e : k' = g
    · subst e; unfold MapObj at hm; rw [hm] at ho; cases ho; cases hr
    · rw [World.putObj_heap_other e]; exact ho
theorem LookupP.found {k : Value → World → Prop} {i : Nat} (h : MapTy C.P t kt et d) (hm : MapObj w g es c) (hf : Instr.findNow d key es.toList 0 = some (some (i, val))) (hk : k val w) :
    LookupP C t (.map (some g)) key false w k := by
  refine ⟨val, w, ?_, NC.refl _ _, hk⟩
  have hget : (getObj g).run C.P w = .ok (.map es c) w := by
    unfold MapObj at hm
    simp [getObj, Sem.run, hm]
  simp [Instr.lookup, run_underlying h.und, hget, h.check, h.find hf]
end
end Go.Vc
namespace Go.Vc
open Go Go.ChangeShapes Go.WideShapes Go.ChangeAt Go.RowKit
theorem Grow.kept {w w' : World} (h : Grow w w') (may : MemPlace → Prop) : w.keptBut w' may := by
  refine ⟨h.os, h.output, fun i hi => ?_⟩
  have e : w.heap[i]? = some w.heap[i] := Array.getElem?_eq_getElem hi
  rw [e, h.block i _ e]
  cases w.heap[i] <;> simp
theorem Grow.frozen {w w' : World} (h : Grow w w') {a : Addr} (ha : a.block < w.heap.size) : w'.frozen? a = w.frozen? a := by
  have e : w.heap[a.block]? = some w.heap[a.block] := Array.getElem?_eq_getElem ha
  unfold World.frozen?
  rw [e, h.block _ _ e]
theorem post_of_grow {H : Type} {enc : TypeId × Value → H} {P : Program} {f : Func} {s : ChangeSpec} {apart fresh handsOn again : Bool} {W W' : World} {args : Array Value} {v : Value} {ds gs : List (DataW H)} {before pa pv : List MemPlace}
    (hW : DataW.Whole enc P f.params.toList s.vars apart W args.toList ds gs before)
    (hres : ∀ (b : Nat) (sp : Nat → Bool) (hd : Bool), DataW.TrodAll enc P W' b sp hd f.resultTypes.toList (v.resultList f.resultTypes.size) (s.fn H (ds ++ gs)).results [])
    (hargs : ∀ sp : Nat → Bool, (∀ p ∈ before, sp p.block = true) → DataW.TrodAll enc P W' 0 sp true f.params.toList args.toList (s.fn H (ds ++ gs)).args pa)
    (hvars : ∀ sp : Nat → Bool, (∀ p ∈ before, sp p.block = true) → DataW.TrodVars enc P W' sp s.vars (s.fn H (ds ++ gs)).vars pv)
    (hps : before = pa ++ pv) (hg : Grow W W')
    (hok : ∀ (j : Nat) (t : TypeId) (r : Value), f.resultTypes[j]? = some t → (v.resultList f.resultTypes.size)[j]? = some r → Value.okWide P W' .any 0 t r) :
    s.post enc P f apart fresh handsOn again W args v W' := by
  have hlt := fun p hp => hW.lt p hp
  have hmem : ∀ {p}, p ∈ pa ++ pv ↔ p ∈ before := fun {p} => by rw [hps]
  refine ⟨ds, gs, before, [], pa, pv, hW, hres _ _ _, hargs _ (fun p hp => decide_eq_true (hlt p hp)), hvars _ (fun p hp => decide_eq_true (hlt p hp)), hg.kept _, fun _ => ⟨hok, ?_⟩⟩
  have hA := trodAll_append (hargs (fun _ => true) (fun _ _ => rfl)) (hres 0 (fun _ => true) true)
  obtain ⟨_, _, _, _, _, hz, hn⟩ := hW
  have hS : DataW.Whole enc P (f.resultTypes.toList ++ f.params.toList) s.vars apart W' (v.resultList f.resultTypes.size ++ args.toList) _ _ ([] ++ pa ++ pv) :=
    ⟨_, _, hA, hvars (fun _ => true) (fun _ _ => rfl), rfl, fun b off hp => by
      have hb := hmem.1 (by simpa using hp)
      rw [hg.frozen (hlt _ hb)]
      exact hz b off hb, fun ha => by
      have := hn ha
      rw [hps] at this; simpa using this⟩
  exact ⟨_, _, _, hS, fun p hp _ => hmem.1 (by simpa using hp)⟩
end Go.Vc
namespace Go.Proofs.YtaajkcngcalgoaaGreat
open Go Go.Vc
def tyTab : List Ty := [
  .other,
  .other,
  .int .i64,
  .int .i64,
  .bool,
  .int .u8,
  .int .u8,
  .struct [(0, 1, false), (1, 1, false), (2, 1, false), (3, 1, false)] [.int .i64 0, .int .i64 0, .bool false, .int .u8 0],
  .struct [(0, 1, false), (1, 1, false), (2, 1, false), (3, 1, false)] [.int .i64 0, .int .i64 0, .bool false, .int .u8 0],
  .string,
  .string,
  .string,
  .int .u64,
  .struct [(0, 1, false), (1, 1, false)] [.string ⟨#[]⟩, .int .u64 0],
  .struct [(0, 1, false), (1, 1, false)] [.string ⟨#[]⟩, .int .u64 0],
  .other,
  .other,
  .other,
  .struct [(0, 1, false)] [.pointer none],
  .struct [(0, 1, false)] [.pointer none],
  .other,
  .int .i32,
  .slice 1,
  .slice 4,
  .struct [(0, 1, false), (1, 1, false), (2, 1, false), (3, 1, false)] [.int .i64 0, .slice none 0 0, .slice none 0 0, .slice none 0 0],
  .struct [(0, 1, false), (1, 1, false), (2, 1, false), (3, 1, false)] [.int .i64 0, .slice none 0 0, .slice none 0 0, .slice none 0 0],
  .slice 1,
  .struct [(0, 1, false), (1, 1, false)] [.bool false, .slice none 0 0],
  .struct [(0, 1, false), (1, 1, false)] [.bool false, .slice none 0 0],
  .struct [(0, 2, true), (2, 2, true)] [.bool false, .slice none 0 0, .bool false, .slice none 0 0],
  .struct [(0, 2, true), (2, 2, true)] [.bool false, .slice none 0 0, .bool false, .slice none 0 0],
  .other,
  .other,
  .other,
  .other,
  .other,
  .struct [(0, 1, false), (1, 1, false), (2, 1, false), (3, 1, false), (4, 1, false), (5, 1, false)] [.int .u8 0, .slice none 0 0, .slice none 0 0, .slice none 0 0, .slice none 0 0, .int .i64 0],
  .struct [(0, 1, false), (1, 1, false), (2, 1, false), (3, 1, false), (4, 1, false), (5, 1, false)] [.int .u8 0, .slice none 0 0, .slice none 0 0, .slice none 0 0, .slice none 0 0, .int .i64 0],
  .int .i64,
  .other,
  .other,
  .other,
  .other,
  .other,
  .other,
  .other,
  .other,
  .other,
  .other,
  .other,
  .other,
  .other,
  .other,
  .other,
  .other,
  .other,
  .other,
  .other,
  .other,
  .other,
  .other,
  .other,
  .other,
  .other,
  .other,
  .other,
  .other,
  .slice 1,
  .struct [(0, 4, true), (4, 1, false)] [.int .i64 0, .slice none 0 0, .slice none 0 0, .slice none 0 0, .slice none 0 0],
  .struct [(0, 4, true), (4, 1, false)] [.int .i64 0, .slice none 0 0, .slice none 0 0, .slice none 0 0, .slice none 0 0],
  .other,
  .other,
  .other,
  .other,
  .int .u16,
  .other,
  .int .u64,
  .other,
  .other,
  .other,
  .struct [(0, 1, false), (1, 4, true)] [.bool false, .bool false, .slice none 0 0, .bool false, .slice none 0 0],
  .struct [(0, 1, false), (1, 4, true)] [.bool false, .bool false, .slice none 0 0, .bool false, .slice none 0 0],
  .other,
  .other,
  .other,
  .other,
  .other,
  .other,
  .other,
  .other,
  .other,
  .other,
  .other,
  .other,
  .slice 1,
  .other,
  .other,
  .other,
  .other,
  .other,
  .other,
  .other,
  .slice 1,
  .other,
  .other,
  .other,
  .other,
  .other,
  .struct [(0, 4, true), (4, 1, false), (5, 1, false)] [.int .i64 0, .slice none 0 0, .slice none 0 0, .slice none 0 0, .pointer none, .int .i64 0],
  .struct [(0, 4, true), (4, 1, false), (5, 1, false)] [.int .i64 0, .slice none 0 0, .slice none 0 0, .slice none 0 0, .pointer none, .int .i64 0],
  .other,
  .other,
  .slice 1,
  .other,
  .other,
  .struct [(0, 1, false)] [.nilFunc],
  .struct [(0, 1, false)] [.nilFunc],
  .other,
  .other,
  .struct [(0, 1, false), (1, 1, false), (2, 1, false)] [.slice none 0 0, .slice none 0 0, .slice none 0 0],
  .struct [(0, 1, false), (1, 1, false), (2, 1, false)] [.slice none 0 0, .slice none 0 0, .slice none 0 0],
  .struct [(0, 3, true), (3, 1, false), (4, 1, false), (5, 1, false)] [.slice none 0 0, .slice none 0 0, .slice none 0 0, .int .i64 0, .slice none 0 0, .int .i64 0],
  .struct [(0, 3, true), (3, 1, false), (4, 1, false), (5, 1, false)] [.slice none 0 0, .slice none 0 0, .slice none 0 0, .int .i64 0, .slice none 0 0, .int .i64 0],
  .other,
  .other,
  .other,
  .struct [(0, 2, true), (2, 2, true)] [.bool false, .slice none 0 0, .bool false, .slice none 0 0],
  .struct [(0, 2, true), (2, 2, true)] [.bool false, .slice none 0 0, .bool false, .slice none 0 0],
  .other,
  .other,
  .other,
  .other,
  .other,
  .other,
  .other,
  .array 2 4 [.bool false, .slice none 0 0, .bool false, .slice none 0 0, .bool false, .slice none 0 0, .bool false, .slice none 0 0],
  .other,
  .other,
  .other,
  .other,
  .other,
  .other,
  .other,
  .other,
  .other,
  .other,
  .other,
  .other,
  .other,
  .struct [(0, 1, false), (1, 1, false), (2, 1, false)] [.slice none 0 0, .nilFunc, .int .i64 0],
  .struct [(0, 1, false), (1, 1, false), (2, 1, false)] [.slice none 0 0, .nilFunc, .int .i64 0],
  .struct [(0, 1, false), (1, 1, false)] [.slice none 0 0, .slice none 0 0],
  .struct [(0, 1, false), (1, 1, false)] [.slice none 0 0, .slice none 0 0],
  .struct [(0, 2, true), (2, 1, false)] [.slice none 0 0, .slice none 0 0, .int .i64 0],
  .struct [(0, 2, true), (2, 1, false)] [.slice none 0 0, .slice none 0 0, .int .i64 0],
  .slice 3,
  .other,
  .other,
  .other,
  .other,
  .other,
  .other,
  .other,
  .other,
  .other,
  .other,
  .other,
  .other,
  .other,
  .other,
  .other,
  .other,
  .other,
  .other,
  .other,
  .other,
  .other,
  .other,
  .slice 2,
  .struct [(0, 1, false), (1, 1, false), (2, 1, false), (3, 1, false)] [.int .i64 0, .int .i64 0, .int .i64 0, .int .i64 0],
  .struct [(0, 1, false), (1, 1, false), (2, 1, false), (3, 1, false)] [.int .i64 0, .int .i64 0, .int .i64 0, .int .i64 0],
  .other,
  .other,
  .other,
  .other,
  .other,
  .other,
  .other,
  .other,
  .other,
  .other,
  .other,
  .other,
  .other,
  .other,
  .other,
  .other,
  .other,
  .int .u64,
  .int .u32,
  .slice 1,
  .other,
  .other,
  .other,
  .other,
  .struct [(0, 4, true), (4, 1, false), (5, 1, false)] [.int .i64 0, .slice none 0 0, .slice none 0 0, .slice none 0 0, .pointer none, .int .i64 0],
  .struct [(0, 4, true), (4, 1, false), (5, 1, false)] [.int .i64 0, .slice none 0 0, .slice none 0 0, .slice none 0 0, .pointer none, .int .i64 0],
  .slice 1,
  .other,
  .struct [(0, 1, false)] [.nilFunc],
  .struct [(0, 1, false)] [.nilFunc],
  .other,
  .struct [(0, 1, false), (1, 1, false), (2, 1, false)] [.slice none 0 0, .slice none 0 0, .slice none 0 0],
  .struct [(0, 1, false), (1, 1, false), (2, 1, false)] [.slice none 0 0, .slice none 0 0, .slice none 0 0],
  .struct [(0, 3, true), (3, 1, false), (4, 1, false), (5, 1, false)] [.slice none 0 0, .slice none 0 0, .slice none 0 0, .int .i64 0, .slice none 0 0, .int .i64 0],
  .struct [(0, 3, true), (3, 1, false), (4, 1, false), (5, 1, false)] [.slice none 0 0, .slice none 0 0, .slice none 0 0, .int .i64 0, .slice none 0 0, .int .i64 0],
  .other,
  .struct [(0, 1, false)] [.nilFunc],
  .struct [(0, 1, false)] [.nilFunc],
  .other,
  .other,
  .other,
  .other,
  .struct [(0, 4, true)] [.int .i64 0, .slice none 0 0, .slice none 0 0, .slice none 0 0],
  .struct [(0, 4, true)] [.int .i64 0, .slice none 0 0, .slice none 0 0, .slice none 0 0],
  .other,
  .struct [(0, 1, false), (1, 1, false), (2, 1, false)] [.int .i64 0, .int .i64 0, .nilFunc],
  .struct [(0, 1, false), (1, 1, false), (2, 1, false)] [.int .i64 0, .int .i64 0, .nilFunc],
  .other,
  .struct [(0, 1, false)] [.nilFunc],
  .struct [(0, 1, false)] [.nilFunc],
  .other,
  .other,
  .other,
  .other,
  .other,
  .other,
  .other,
  .other,
  .other,
  .other,
  .other,
  .other,
  .other,
  .other,
  .other,
  .other,
  .other,
  .slice 1,
  .other,
  .other,
  .other,
  .other,
  .other,
  .other,
  .other,
  .other,
  .other,
  .other,
  .other,
  .other,
  .other,
  .other,
  .other,
  .other,
  .other,
  .other,
  .other,
  .other,
  .other,
  .other,
  .struct [(0, 1, false), (1, 1, false), (2, 1, false), (3, 1, false)] [.pointer none, .pointer none, .pointer none, .string ⟨#[]⟩],
  .struct [(0, 1, false), (1, 1, false), (2, 1, false), (3, 1, false)] [.pointer none, .pointer none, .pointer none, .string ⟨#[]⟩],
  .array 0 1 [],
  .struct [(0, 0, true)] [],
  .struct [(0, 0, true)] [],
  .other,
  .int .u8,
  .int .u8,
  .other,
  .other,
  .int .i32,
  .int .i32,
  .struct [(0, 1, false), (1, 1, false), (2, 1, false), (3, 1, false), (4, 1, false), (5, 1, false), (6, 1, false), (7, 1, false), (8, 1, false), (9, 1, false), (10, 1, false)] [.int .u64 0, .int .u64 0, .int .u32 0, .int .u8 0, .int .u8 0, .int .u8 0, .int .u8 0, .nilFunc, .pointer none, .int .i32 0, .int .i32 0],
  .struct [(0, 1, false), (1, 1, false), (2, 1, false), (3, 1, false), (4, 1, false), (5, 1, false), (6, 1, false), (7, 1, false), (8, 1, false), (9, 1, false), (10, 1, false)] [.int .u64 0, .int .u64 0, .int .u32 0, .int .u8 0, .int .u8 0, .int .u8 0, .int .u8 0, .nilFunc, .pointer none, .int .i32 0, .int .i32 0],
  .other
]
abbrev τ : TypeId → Ty := tyOf tyTab
theorem tyTab_ok : tysChk Tryz.prog tyTab = true := by kernel_rfl
def hasB (f : FuncId) : Bool := inRange 2 238 f
theorem hasB_ok : allRange (bodyChk Tryz.prog) 236 2 = true := by kernel_rfl
theorem mixed_ok : Tryz.prog.follows .mixedOrders = true := by kernel_rfl
noncomputable abbrev CC : Ctx := { P := Tryz.prog, τ := tyOf tyTab, B := hasB }
theorem CC.ok : CC.OK where
  ty := tysChk_spec tyTab_ok
  body := fun f h => by
    simp only [hasB, inRange, Bool.and_eq_true, Nat.ble_eq, Nat.blt_eq] at h
    exact bodyChk_spec (allRange_spec hasB_ok f h.1 (by omega))
  mixed := mixed_ok
noncomputable abbrev CY (y : Nat) : Ctx := { CC with X := some y }
theorem CY.ok (y : Nat) : (CY y).OK := ⟨CC.ok.ty, CC.ok.body, CC.ok.mixed⟩
end Go.Proofs.YtaajkcngcalgoaaGreat
