/- The law BinaryExamples: for every input the call returns true and leaves its arguments as they were. No condition. This text: a part of what that proof needs. -/
import Derived.Test.YtaajkcngcalgoaaGreatBeQ2
import Derived.KernelRfl
import Derived.Laws.StructEq
namespace Go.Spx
def qat (a : List Rat) (k : Nat) : Rat := a.getD k 0
def vwith (f : Rat → Rat → Rat) (a b : List Rat) : List Rat := (List.range (max a.length b.length)).map fun k => f (qat a k) (qat b k)
def addScaled (k : Rat) (a b : List Rat) : List Rat := vwith (fun x y => k * x + y) a b
def vscale (k : Rat) (a : List Rat) : List Rat := addScaled k a []
def sumQ (l : List Rat) : Rat := l.foldl (· + ·) 0
def dot (a b : List Rat) : Rat := sumQ (vwith (· * ·) a b)
def vsgn (x : Rat) : Int := x.num.sign
def firstNZ : List Int → Int
  | [] => 0
  | c :: r => if c ≠ 0 then c else firstNZ r
def vcmp (a b : List Rat) : Int := firstNZ ((List.range (max a.length b.length)).map fun k => vsgn (qat a k - qat b k))
def resize (a : List Rat) (n : Nat) : List Rat := (List.range n).map (qat a)
def unit (n : Nat) (k : Int) : List Rat := (List.range n).map fun (i : Nat) => if (i : Int) = k then 1 else 0
def rowAt (m : List (List Rat)) (i : Nat) : List Rat := m.getD i []
def mat (m : List (List Rat)) (i k : Nat) : Rat := qat (rowAt m i) k
def colsOf (m : List (List Rat)) : Nat := m.foldl (fun n r => max n r.length) 0
def grid (rows cols : Nat) (f : Nat → Nat → Rat) : List (List Rat) := (List.range rows).map fun i => (List.range cols).map (f i)
structure Lp where
  vars : Int
  objs : List (List Rat)
  rows : List (List Rat)
  bounds : List Rat
def Lp.n (p : Lp) : Nat := p.vars.toNat
structure St where
  m : List (List Rat)
  r : List Rat
  b : List Nat
  s : List Bool
  n : Nat
def fitB (L : Nat) (x : Rat) : Bool := decide (x.num.natAbs < 4294967296 ^ L) && decide (x.den < 4294967296 ^ L)
def St.ok (L : Nat) (s : St) : Bool := s.m.all (fun row => row.all (fitB L)) && s.r.all (fitB L)
abbrev Goal := Nat → Rat
def costAcc (g : Goal) (col : Nat) : Rat → List Nat → List (List Rat) → Rat
  | acc, k :: b, row :: m => costAcc g col (if g k ≠ 0 ∧ qat row col ≠ 0 then acc + g k * qat row col else acc) b m
  | acc, _, _ => acc
def cost (g : Goal) (col : Nat) (s : St) : Rat := costAcc g col (- g col) s.b s.m
def clearM (row col : Nat) (piv : List Rat) : Nat → List (List Rat) → List (List Rat)
  | _, [] => []
  | i, x :: m => (if i = row then piv else if qat x col ≠ 0 then addScaled (- qat x col) piv x else x) :: clearM row col piv (i + 1) m
def clearR (row col : Nat) (by_ : Rat) : Nat → List (List Rat) → List Rat → List Rat
  | i, x :: m, y :: r => (if i = row then by_ else if qat x col ≠ 0 then (- qat x col) * by_ + y else y) :: clearR row col by_ (i + 1) m r
  | _, _, _ => []
def pivot (row col : Nat) (s : St) : St :=
  let b := 1 / mat s.m row col
  { m := clearM row col (vscale b (rowAt s.m row)) 0 s.m
    r := clearR row col (b * qat s.r row) 0 s.m s.r
    b := s.b.set row col
    s := s.s
    n := s.n + 1 }
def pivotC (L row col : Nat) (s : St) : Option St := if (pivot row col s).ok L then some (pivot row col s) else none
def enter (g : Goal) (s : St) (cols : Nat) : Option Nat := (List.range cols).find? fun k => !(s.s.getD k true) && decide (cost g k s < 0)
def leaveFrom (col : Nat) (s : St) : Nat → List (List Rat) → Option (Nat × Rat) → Option (Nat × Rat)
  | _, [], o => o
  | i, x :: m, o =>
    leaveFrom col s (i + 1) m (if qat x col ≤ 0 then o else
      match o with
      | none => some (i, qat s.r i / qat x col)
      | some (a, q) => if qat s.r i / qat x col < q ∨ qat s.r i / qat x col = q ∧ s.b.getD i 0 < s.b.getD a 0 then some (i, qat s.r i / qat x col) else some (a, q))
def leave (col : Nat) (s : St) : Option Nat := (leaveFrom col s 0 s.m none).map (·.1)
def shutBy (g : Goal) (s : St) (cols : Nat) : List Bool := (List.range cols).map fun k => s.s.getD k true || decide (cost g k s ≠ 0)
def climb (L cols : Nat) (g : Goal) : Nat → St → Option (St × Option Nat)
  | 0, _ => none
  | f + 1, s =>
    match enter g s cols with
    | none => some ({ s with s := shutBy g s cols }, none)
    | some k =>
      match leave k s with
      | none => some (s, some k)
      | some i => (pivotC L i k s).bind (climb L cols g f)
def row0 (n m : Nat) (rows : List (List Rat)) (i : Nat) : List Rat := (List.range (n + m + 1)).map fun k => if k < n then mat rows i k else if k < n + m then (if k - n = i then 1 else 0) else -1
def leastIdx : List Rat → Nat → Nat → List Rat → Nat
  | _, _, l, [] => l
  | all, i, l, x :: r => leastIdx all (i + 1) (if x < qat all l then i else l) r
def init (p : Lp) : St :=
  let m := p.rows.length
  { m := (List.range m).map (row0 p.n m p.rows), r := resize p.bounds m, b := (List.range m).map (p.n + ·), s := List.replicate (p.n + m + 1) false, n := 0 }
def begin_ (L : Nat) (p : Lp) : Option St :=
  let s := init p
  let l := leastIdx s.r 0 0 s.r
  if p.rows.length > 0 ∧ qat s.r l < 0 then pivotC L l (p.n + p.rows.length) s else some s
def artG (more : Nat) : Goal := fun k => if k = more then -1 else 0
def drive (L more : Nat) : Nat → Nat → St → Option (St × Bool)
  | 0, _, s => some (s, true)
  | k + 1, i, s =>
    if s.b.getD i 0 ≠ more then drive L more k (i + 1) s
    else if 0 < qat s.r i then some (s, false)
    else match (List.range more).find? fun c => decide (mat s.m i c ≠ 0) with
      | none => drive L more k (i + 1) s
      | some c => (pivotC L i c s).bind (drive L more k (i + 1))
def feasible (L fuel more : Nat) (s : St) : Option (St × Bool) :=
  (climb L (more + 1) (artG more) fuel s).bind fun x =>
    (drive L more x.1.b.length 0 x.1).map fun y => if y.2 then ({ y.1 with s := (List.range (more + 1)).map fun k => decide (k = more) }, true) else y
def goalRow (row : List Rat) : Goal := fun k => qat row k
def goalUnit (k : Nat) : Goal := fun c => if c = k then -1 else 0
def goals (p : Lp) : List Goal := p.objs.map (fun g => goalRow (resize g p.n)) ++ (List.range p.n).map goalUnit
def climbs (L fuel cols : Nat) : List Goal → St → Option (St × Option Nat)
  | [], s => some (s, none)
  | g :: l, s => (climb L cols g fuel s).bind fun x => match x.2 with | none => climbs L fuel cols l x.1 | some k => some (x.1, some k)
structure Res where
  kind : Nat
  x : List Rat
  y : List (List Rat)
  ray : List Rat
  far : List Rat
  pivots : Nat
  deriving DecidableEq
def pointFrom (n : Nat) (r : List Rat) : Nat → List Nat → List Rat → List Rat
  | _, [], x => x
  | i, k :: b, x => pointFrom n r (i + 1) b (if k < n then x.set k (qat r i) else x)
def point (n : Nat) (s : St) : List Rat := pointFrom n s.r 0 s.b (List.replicate n 0)
def rayFrom (n col : Nat) (m : List (List Rat)) : Nat → List Nat → List Rat → List Rat
  | _, [], x => x
  | i, k :: b, x => rayFrom n col m (i + 1) b (if k < n then x.set k (- mat m i col) else x)
def run (L fuel : Nat) (p : Lp) : Option Res :=
  let n := p.n
  let m := p.rows.length
  (begin_ L p).bind fun s =>
  (feasible L fuel (n + m) s).bind fun y =>
    if y.2 then
      (climbs L fuel (n + m + 1) (goals p) y.1).map fun z =>
        match z.2 with
        | none => { kind := 1, x := point n z.1, y := (List.range m).map fun i => (goals p).map fun g => cost g (n + i) z.1, ray := [], far := [], pivots := z.1.n }
        | some k => { kind := 3, x := point n z.1, y := [], ray := rayFrom n k z.1.m 0 z.1.b (if k < n then (List.replicate n 0).set k 1 else List.replicate n 0), far := [], pivots := z.1.n }
    else some { kind := 2, x := [], y := [], ray := [], far := (List.range m).map fun i => cost (artG (n + m)) (n + i) y.1, pivots := y.1.n }
end Go.Spx
namespace Go.Spx
def ratsOf (l : List Int) : List Rat := l.map fun (n : Int) => (n : Rat)
def anyGt (xs ys : List Rat) : Bool := (List.range (max xs.length ys.length)).any fun k => decide (0 < vsgn (qat xs k - qat ys k))
def mulVec (m : List (List Rat)) (x : List Rat) : List Rat := m.map fun r => dot r x
def validSz (p : Lp) : Bool := decide (p.vars = min (max p.vars 0) 64 ∧ (p.objs.length : Int) = min (max (p.objs.length : Int) 1) 4 ∧ (p.rows.length : Int) = min (p.rows.length : Int) 128 ∧ (p.bounds.length : Int) = min (p.rows.length : Int) 128)
def validP (p : Lp) : Bool := (validSz p && decide ((colsOf p.objs : Int) ≤ p.vars)) && decide ((colsOf p.rows : Int) ≤ p.vars)
def cmpP (p : Lp) (x y : List Rat) : Int := if vcmp (mulVec p.objs x) (mulVec p.objs y) ≠ 0 then vcmp (mulVec p.objs x) (mulVec p.objs y) else vcmp y x
def slack (p : Lp) (x : List Rat) : List Rat := (List.range p.rows.length).map fun k => qat p.bounds k - dot (Spx.rowAt p.rows k) x
def feasP (p : Lp) (x : List Rat) : Bool := (validP p && decide ((x.length : Int) ≤ p.vars)) && (!anyGt [] x && !anyGt [] (slack p x))
structure Bin where
  lp : Lp
  bin : List Int
structure BNode where
  lo : List Int
  hi : List Int
  depth : Nat
def iat (l : List Int) (i : Nat) : Int := l.getD i 0
def okAt (b : Bin) (i : Nat) : Bool := decide (0 ≤ iat b.bin i) && decide (iat b.bin i < b.lp.vars) && (decide (i = 0) || decide (iat b.bin (i - 1) < iat b.bin i))
def validB (b : Bin) : Bool := (validP b.lp && decide (b.bin.length ≤ 12)) && (List.range b.bin.length).all (okAt b)
def integral (bin : List Int) (x : List Rat) : Option Nat := (List.range bin.length).find? fun i => decide (iat bin i < x.length) && decide (qat x (iat bin i).toNat ≠ 0) && decide (qat x (iat bin i).toNat ≠ 1)
def nodeAt (b : Bin) (n : BNode) (i : Nat) : List (List Rat × Rat) :=
  (unit (min b.lp.vars.toNat 65536) (iat b.bin i), (iat n.hi i : Rat)) :: if 0 < iat n.lo i then [(vscale (-1) (unit (min b.lp.vars.toNat 65536) (iat b.bin i)), ((- iat n.lo i : Int) : Rat))] else []
def nodeAll (b : Bin) (n : BNode) (k : Nat) : List (List Rat × Rat) := (List.range k).flatMap (nodeAt b n)
def nodeP (b : Bin) (n : BNode) : Lp := { vars := b.lp.vars, objs := b.lp.objs, rows := b.lp.rows ++ (nodeAll b n b.bin.length).map (·.1), bounds := b.lp.bounds ++ (nodeAll b n b.bin.length).map (·.2) }
def feasB (b : Bin) (x : List Rat) : Bool := validB b && feasP b.lp x && (integral b.bin x).isNone
def zeroOf (n : BNode) (i : Nat) : BNode := { lo := n.lo, hi := n.hi.set i 0, depth := n.depth + 1 }
def oneOf (n : BNode) (i : Nat) : BNode := { lo := n.lo.set i 1, hi := n.hi, depth := n.depth + 1 }
def rootN (b : Bin) : BNode := { lo := List.replicate b.bin.length 0, hi := List.replicate b.bin.length 1, depth := 0 }
def unfixed (n : BNode) : Option Nat := (List.range n.hi.length).find? fun i => decide (iat n.lo i ≠ iat n.hi i)
def pruned (b : Bin) (best : Option (List Rat)) (x : List Rat) : Bool := match best with | none => false | some y => decide (cmpP b.lp x y ≤ 0)
def search (L fuel : Nat) (b : Bin) : Nat → List BNode → Option (List Rat) → Bool → Nat → Option (Nat × List Rat × Nat)
  | 0, _, _, _, _ => none
  | _ + 1, [], best, unb, st => some (match best with | none => (8, [], 0) | some x => if unb then (9, [], 0) else (0, x, st))
  | f + 1, n :: open_, best, unb, st =>
    (run L fuel (nodeP b n)).bind fun r =>
      if r.kind = 2 then search L fuel b f open_ best unb (st + 1)
      else if r.kind = 3 then
        match unfixed n with
        | none => some (9, [], 0)
        | some i => search L fuel b f (zeroOf n i :: oneOf n i :: open_) best true (st + 1)
      else if pruned b best r.x then search L fuel b f open_ best unb (st + 1)
      else match integral b.bin r.x with
        | none => search L fuel b f open_ (some r.x) unb (st + 1)
        | some i => search L fuel b f (oneOf n i :: zeroOf n i :: open_) best unb (st + 1)
def solveB (L fuel sf : Nat) (b : Bin) : Option (Nat × List Rat × Nat) := if validB b then search L fuel b sf [rootN b] none false 0 else some (1, [], 0)
def knapB : Bin := { lp := { vars := 3, objs := [ratsOf [5, 4, 3]], rows := [ratsOf [2, 3, 1], ratsOf [4, 1, 2], ratsOf [3, 4, 2]], bounds := ratsOf [5, 11, 8] }, bin := [0, 1, 2] }
def oneB (rows most : List Int) : Bin := { lp := { vars := 1, objs := [ratsOf [1]], rows := rows.map fun r => ratsOf [r], bounds := ratsOf most }, bin := [0] }
end Go.Spx
namespace Go.Proofs.YtaajkcngcalgoaaGreat
open Go Go.Vc Go.Spx
attribute [local irreducible] Tryz.prog
section
variable {C : Ctx} {t e : TypeId} {sz : Nat} {agg : Bool} {zero : List Value} {bytes : Nat} {w : World}
theorem Vc_idx {base n : Nat} {o : Value} {xs : List Value} (ho : Vc.Own w base e sz o n xs) {k : IntKind} {i : Nat} (hi : i < n) :
    ∃ g, o.ownBlock = some g ∧ indexAddrV (.slice sz) o (.int k i) = some (.pointer (some ⟨g, i * sz, none⟩)) := by
  rcases ho.2 with ⟨rfl, rfl⟩ | ⟨g, cap, cur, rfl, hb, hg, hn, hm, hs, ht⟩
  · omega
  · refine ⟨g, rfl, ?_⟩
    have e : indexAddrV (.slice sz) (.slice (some ⟨g, 0, none⟩) n cap) (.int k i) = (if i < n then (plus ⟨g, 0, none⟩ (i * sz)).map fun a => Value.pointer (some a) else none) := rfl
    rw [e, if_pos hi]
    simp [plus]
theorem over_take {cs vs : List Value} {off m : Nat} (h : off + vs.length ≤ m) (hm : m ≤ cs.length) : (over cs off vs).take m = over (cs.take m) off vs := by
  unfold over
  apply List.ext_getElem?
  intro i
  simp only [List.getElem?_take, List.getElem?_append, List.length_append, List.length_take, List.getElem?_drop]
  split <;> (repeat' split) <;> first | rfl | omega | (congr 1; omega) | skip
  all_goals (rw [eq_comm, List.getElem?_eq_none]; simp; omega)
theorem Vc_store {K : World → Prop} (h : TI C.P t sz agg zero bytes) {base n g : Nat} {o v : Value} {xs : List Value} (ho : Vc.Own w base e sz o n xs) (hg : o.ownBlock = some g) {i : Nat} (hi : i < n)
    (hl : v.cells.size = sz) (h1 : ∀ u ∈ v.cells.toList, u.oneCell' = true) (he : e ≠ 199)
    (hk : ∀ w', Md (fun g => o.ownBlock = some g) w w' → Vc.Own w' base e sz o n (over xs (i * sz) v.cells.toList) → K w') :
    StoreP C t (.pointer (some ⟨g, i * sz, none⟩)) v w K := by
  have ho' := ho
  rcases ho.2 with ⟨rfl, rfl⟩ | ⟨g', cap, cur, rfl, hb, hgg, hn, hm, hs, ht⟩
  · omega
  · simp [Value.ownBlock] at hg
    subst hg
    have hbl : Blk w g' e cur.toList := by unfold Blk; simpa using hgg
    have hle : i * sz + sz ≤ n * sz := by rw [← Nat.succ_mul]; exact Nat.mul_le_mul_right _ hi
    have hle2 : n * sz ≤ cap * sz := Nat.mul_le_mul_right _ hn
    have hsz : cur.toList.length = cap * sz := by simpa using hs
    refine StoreP.at h hbl hl h1 (by omega) fun w' hu hb' => ?_
    have hlv : v.cells.toList.length = sz := by simpa using hl
    refine hk w' (Md.own (hu.mono fun k hk => by simp [Value.ownBlock, hk]) ho' he) ⟨?_, .inr ⟨g', cap, (over cur.toList (i * sz) v.cells.toList).toArray, rfl, hb, hb', hn, hm, ?_, ?_⟩⟩
    · have := ho.1
      unfold over; simp only [List.length_append, List.length_take, List.length_drop]; omega
    · unfold over; simp only [List.size_toArray, List.length_append, List.length_take, List.length_drop]; omega
    · rw [over_take (by omega) (by omega), ht]
end
def Qs (c : Bool) (L : Nat) (w : World) (cs : List Value) (xs : List Rat) : Prop :=
  (cs.length = xs.length * 4 ∧ ∀ u ∈ cs, u.oneCell' = true) ∧ ∀ i x, xs[i]? = some x → QR c L w (.agg (cut cs (i * 4) 4).toArray) x
section
variable {c : Bool} {L M : Nat} {w w' : World} {v : Value} {x : Rat} {xs : List Rat} {cs : List Value} {S : Nat → Prop} {i n : Nat}
theorem Qs.nil : Qs c L w [] [] := ⟨⟨rfl, by simp⟩, by simp⟩
theorem Qs.md (h : Qs c L w cs xs) (hm : Md S w w') : Qs c L w' cs xs := ⟨h.1, fun i x hx => (h.2 i x hx).md hm⟩
theorem Qs.grow (h : Qs c L w cs xs) (hm : Grow w w') : Qs c L w' cs xs := ⟨h.1, fun i x hx => (h.2 i x hx).grow hm⟩
theorem Qs.le (h : Qs c L w cs xs) (hl : L ≤ M) : Qs c M w cs xs := ⟨h.1, fun i x hx => (h.2 i x hx).le hl⟩
theorem Qs.refit (h : Qs true L w cs xs) (hf : ∀ x ∈ xs, FitQ M x) : Qs c M w cs xs := ⟨h.1, fun i x hx => (h.2 i x hx).refit (hf x (List.mem_of_getElem? hx))⟩
theorem cut_append_left {a b : List Value} {off sz : Nat} (h : off + sz ≤ a.length) : cut (a ++ b) off sz = cut a off sz := by
  unfold cut
  rw [List.drop_append_of_le_length (by omega), List.take_append_of_le_length (by simp; omega)]
theorem cut_append_right {a b : List Value} {sz : Nat} (h : b.length = sz) : cut (a ++ b) a.length sz = b := by
  unfold cut; simp [List.take_of_length_le, h]
theorem QR.toList (h : QR c L w v x) : v.cells.toList.length = 4 ∧ (∀ u ∈ v.cells.toList, u.oneCell' = true) ∧ v = .agg v.cells := by
  obtain ⟨cs, rfl, hl, h1⟩ := h.cells
  exact ⟨by simpa [Value.cells] using hl, by simpa [Value.cells] using h1, by simp [Value.cells]⟩
theorem QR.agg (h : QR c L w v x) : (.agg v.cells.toList.toArray : Value) = v := by
  have := h.toList.2.2
  simp at this ⊢; exact this.symm
theorem Qs.snoc (h : Qs c L w cs xs) (hv : QR c L w v x) : Qs c L w (cs ++ v.cells.toList) (xs ++ [x]) := by
  have hl := hv.toList
  refine ⟨⟨by simp only [List.length_append, h.1.1, hl.1, List.length_singleton]; omega, fun u hu => (List.mem_append.1 hu).elim (h.1.2 u) (hl.2.1 u)⟩, fun i y hy => ?_⟩
  rw [List.getElem?_append] at hy
  split at hy
  · rename_i hi
    rw [cut_append_left (by have := h.1.1; omega)]
    exact h.2 i y hy
  · rename_i hi
    have : i = xs.length := by
      have := (List.getElem?_eq_some_iff.1 hy).1
      simp at this; omega
    subst this
    simp at hy
    subst hy
    rw [← h.1.1, cut_append_right hl.1, hv.agg]
    exact hv
theorem cut_over_same {cs vs : List Value} {off : Nat} (h : off + vs.length ≤ cs.length) : cut (over cs off vs) off vs.length = vs := by
  unfold cut over
  have : (cs.take off).length = off := by simp; omega
  rw [List.append_assoc, List.drop_append_of_le_length (by omega), List.drop_of_length_le (by omega)]
  simp
theorem cut_over_other {cs vs : List Value} {off o sz : Nat} (h : off + vs.length ≤ cs.length) (ho : o + sz ≤ off ∨ off + vs.length ≤ o) : cut (over cs off vs) o sz = cut cs o sz := by
  unfold cut over
  apply List.ext_getElem?
  intro i
  simp only [List.getElem?_take, List.getElem?_append, List.length_append, List.length_take, List.getElem?_drop]
  split <;> (repeat' split) <;> first | rfl | omega | (congr 1; omega)
theorem length_over {cs vs : List Value} {off : Nat} (h : off + vs.length ≤ cs.length) : (over cs off vs).length = cs.length := by
  unfold over; simp; omega
theorem mem_over {cs vs : List Value} {off : Nat} {u : Value} (h : u ∈ over cs off vs) : u ∈ cs ∨ u ∈ vs := by
  unfold over at h
  simp only [List.mem_append] at h
  rcases h with (h | h) | h
  · exact .inl (List.mem_of_mem_take h)
  · exact .inr h
  · exact .inl (List.mem_of_mem_drop h)
theorem Qs.set (h : Qs c L w cs xs) (hv : QR c L w v x) (hi : i < xs.length) : Qs c L w (over cs (i * 4) v.cells.toList) (xs.set i x) := by
  have hl := hv.toList
  have hlen := h.1.1
  have hb : i * 4 + v.cells.toList.length ≤ cs.length := by omega
  refine ⟨⟨by rw [length_over hb]; simpa using hlen, fun u hu => (mem_over hu).elim (h.1.2 u) (hl.2.1 u)⟩, fun j y hy => ?_⟩
  rw [List.getElem?_set] at hy
  split at hy
  · rename_i hij
    subst hij
    simp [hi] at hy
    subst hy
    have := cut_over_same hb
    rw [hl.1] at this
    rw [this, hv.agg]
    exact hv
  · rename_i hij
    rw [cut_over_other hb (by omega)]
    exact h.2 j y hy
def zeroQ : List Value := [.bool false, .slice none 0 0, .bool false, .slice none 0 0]
theorem cut_rep {z : List Value} {n i : Nat} (hi : i < n) : cut (rep n z) (i * z.length) z.length = z := by
  induction n generalizing i with
  | zero => omega
  | succ n ih =>
    have e : rep (n + 1) z = z ++ rep n z := by simp [rep, List.replicate_succ]
    rw [e]
    cases i with
    | zero => unfold cut; simp
    | succ i =>
      have h2 := ih (i := i) (by omega)
      unfold cut at h2 ⊢
      rw [List.drop_append, List.drop_of_length_le (by rw [Nat.add_mul]; omega), List.nil_append]
      have : (i + 1) * z.length - z.length = i * z.length := by rw [Nat.add_mul]; omega
      rw [this]; exact h2
theorem Qs.rep (hL : 1 ≤ L) (n : Nat) : Qs c L w (rep n zeroQ) (List.replicate n 0) := by
  refine ⟨⟨by rw [length_rep]; simp [zeroQ], fun u hu => ?_⟩, fun i x hx => ?_⟩
  · simp only [Vc.rep, List.mem_flatten, List.mem_replicate] at hu
    obtain ⟨l, ⟨_, rfl⟩, hu⟩ := hu
    simp [zeroQ] at hu
    rcases hu with rfl | rfl | rfl | rfl <;> rfl
  · rw [List.getElem?_replicate] at hx
    split at hx
    · rename_i hi
      cases hx
      have := cut_rep (z := zeroQ) hi
      simp only [show zeroQ.length = 4 from rfl] at this
      rw [this]
      exact QR.zero hL
    · cases hx
def Vec (c : Bool) (L : Nat) (P : Nat → Prop) (w : World) (v : Value) (xs : List Rat) : Prop := ∃ cs, Sli (fun k _ => P k) w 30 4 v xs.length cs ∧ Qs c L w cs xs
def VecO (c : Bool) (L base : Nat) (w : World) (v : Value) (xs : List Rat) : Prop := ∃ cs, Vc.Own w base 30 4 v xs.length cs ∧ Qs c L w cs xs
variable {P Q : Nat → Prop} {base : Nat} {o : Value}
theorem Vec.md (h : Vec c L P w v xs) (hm : Md S w w') (hd : ∀ k, P k → ¬ S k) : Vec c L P w' v xs := by
  obtain ⟨cs, h1, h2⟩ := h; exact ⟨cs, h1.md hm hd, h2.md hm⟩
theorem Vec.grow (h : Vec c L P w v xs) (hg : Grow w w') : Vec c L P w' v xs := by
  obtain ⟨cs, h1, h2⟩ := h; exact ⟨cs, h1.keep hg.kp, h2.grow hg⟩
theorem Vec.mono (h : Vec c L P w v xs) (hq : ∀ k, k < w.heap.size → P k → Q k) : Vec c L Q w v xs := by
  obtain ⟨cs, h1, h2⟩ := h; exact ⟨cs, h1.mono hq, h2⟩
theorem Vec.le (h : Vec c L P w v xs) (hl : L ≤ M) : Vec c M P w v xs := by
  obtain ⟨cs, h1, h2⟩ := h; exact ⟨cs, h1, h2.le hl⟩
theorem Vec.refit (h : Vec true L P w v xs) (hf : ∀ x ∈ xs, FitQ M x) : Vec c M P w v xs := by
  obtain ⟨cs, h1, h2⟩ := h; exact ⟨cs, h1, h2.refit hf⟩
theorem Vec.nil : Vec c L P w (.slice none 0 0) [] := ⟨[], Sli.nil, Qs.nil⟩
theorem Vec.lim (h : Vec c L P w v xs) : xs.length ≤ 1099511627776 := by obtain ⟨cs, h1, h2⟩ := h; exact h1.lim
theorem Vec.len (h : Vec c L P w v xs) : lenV (.slice 4) v = some (.int .i64 xs.length) := by obtain ⟨cs, h1, h2⟩ := h; exact h1.len
theorem Vec.shape (h : Vec c L P w v xs) : ∃ a cap, v = .slice a xs.length cap ∧ xs.length ≤ cap := by obtain ⟨cs, h1, h2⟩ := h; exact h1.shape
theorem Vec.one (h : Vec c L P w v xs) : v.oneCell' = true := by obtain ⟨a, cap, rfl, _⟩ := h.shape; rfl
theorem Vec.idx (h : Vec c L P w v xs) {k : IntKind} {i : Nat} (hi : i < xs.length) : ∃ x, indexAddrV (.slice 4) v (.int k i) = some x := by obtain ⟨cs, h1, h2⟩ := h; exact h1.idx hi
theorem Vec.load (h : Vec c L P w v xs) {k : IntKind} {i : Nat} {a : Value} (ha : indexAddrV (.slice 4) v (.int k i) = some a) (hx : xs[i]? = some x) {K : Value → World → Prop}
    (hk : ∀ r, QR c L w r x → K r w) : LoadP CC 30 a w K := by
  obtain ⟨cs, h1, h2⟩ := h
  exact h1.loadN (C := CC) ti30 ha (List.getElem?_eq_some_iff.1 hx).1 (hk _ (h2.2 i x hx))
theorem VecO.vec (h : VecO c L base w v xs) (hn : xs.length ≤ 1099511627776) : Vec c L (fun k => base ≤ k) w v xs := by
  obtain ⟨cs, h1, h2⟩ := h; exact ⟨cs, Vc.Own.sli h1 hn (fun g hg _ => hg), h2⟩
theorem VecO.nil : VecO c L base w (.slice none 0 0) [] := ⟨[], Vc.Own.nil _ _ _ _, Qs.nil⟩
theorem VecO.md (h : VecO c L base w v xs) (hm : Md S w w') (hd : ∀ k, v.ownBlock = some k → ¬ S k) : VecO c L base w' v xs := by
  obtain ⟨cs, h1, h2⟩ := h; exact ⟨cs, Vc.Own.md h1 hm hd, h2.md hm⟩
theorem VecO.grow (h : VecO c L base w v xs) (hm : Grow w w') : VecO c L base w' v xs := by
  obtain ⟨cs, h1, h2⟩ := h; exact ⟨cs, Vc.Own.grow h1 hm, h2.grow hm⟩
theorem VecO.le (h : VecO c L base w v xs) (hl : L ≤ M) : VecO c M base w v xs := by
  obtain ⟨cs, h1, h2⟩ := h; exact ⟨cs, h1, h2.le hl⟩
theorem VecO.refit (h : VecO true L base w v xs) (hf : ∀ x ∈ xs, FitQ M x) : VecO c M base w v xs := by
  obtain ⟨cs, h1, h2⟩ := h; exact ⟨cs, h1, h2.refit hf⟩
theorem VecO.block (h : VecO c L base w v xs) : ∀ k, v.ownBlock = some k → base ≤ k ∧ k < w.heap.size := by
  obtain ⟨cs, h1, h2⟩ := h; exact Vc.Own.block h1
theorem VecO.len (h : VecO c L base w v xs) : ∃ a cap, v = .slice a xs.length cap := by
  obtain ⟨cs, h1, h2⟩ := h; exact Vc.Own.len h1
theorem VecO.one (h : VecO c L base w v xs) : v.oneCell' = true := by obtain ⟨a, cap, rfl⟩ := h.len; rfl
theorem VecO.store {K : World → Prop} (ho : VecO c L base w o xs) (hv : QR c L w v x) {g : Nat} (hg : o.ownBlock = some g) (hi : i < xs.length)
    (hk : ∀ w', Md (fun g => o.ownBlock = some g) w w' → VecO c L base w' o (xs.set i x) → K w') : StoreP CC 30 (.pointer (some ⟨g, i * 4, none⟩)) v w K := by
  obtain ⟨cs, h1, h2⟩ := ho
  have hl := hv.toList
  refine Vc_store (C := CC) ti30 h1 hg hi (by simpa using hl.1) hl.2.1 (by decide) fun w' hm ho => ?_
  exact hk w' hm ⟨_, by simpa using ho, (h2.set hv hi).md hm⟩
theorem VecO.idx (ho : VecO c L base w o xs) {k : IntKind} {i : Nat} (hi : i < xs.length) :
    ∃ g, o.ownBlock = some g ∧ indexAddrV (.slice 4) o (.int k i) = some (.pointer (some ⟨g, i * 4, none⟩)) := by
  obtain ⟨cs, h1, h2⟩ := ho; exact Vc_idx h1 hi
theorem VecO.made {g n : Nat} (hb : Blk w g 30 (rep n zeroQ)) (hL : 1 ≤ L) (hg : base ≤ g) (hn : n ≤ 1099511627776) : VecO c L base w (.slice (some ⟨g, 0, none⟩) n n) (List.replicate n 0) := by
  refine ⟨rep n zeroQ, ?_, Qs.rep hL n⟩
  rw [List.length_replicate]
  exact Vc.Own.lit hb (by rw [length_rep]; rfl) hg (by simp only [maxLen]; omega)
end
end Go.Proofs.YtaajkcngcalgoaaGreat
namespace Go.Proofs.YtaajkcngcalgoaaGreat
open Go Go.Vc Go.Spx
attribute [local irreducible] Tryz.prog
def Rows (c : Bool) (L : Nat) (P : Nat → Prop) (w : World) (vs : List Value) (m : List (List Rat)) : Prop :=
  vs.length = m.length ∧ ∀ (i : Nat) (row : List Rat), m[i]? = some row → ∃ u, vs[i]? = some u ∧ Vec c L P w u row
def Mat (c : Bool) (L : Nat) (P P' : Nat → Prop) (w : World) (v : Value) (m : List (List Rat)) : Prop := ∃ vs, Sli (fun k _ => P k) w 23 1 v m.length vs ∧ Rows c L P' w vs m
def MatO (c : Bool) (L : Nat) (P : Nat → Prop) (base : Nat) (w : World) (v : Value) (m : List (List Rat)) : Prop := ∃ vs, Vc.Own w base 23 1 v m.length vs ∧ Rows c L P w vs m
section
variable {c : Bool} {L M : Nat} {w w' : World} {v o u : Value} {row : List Rat} {m : List (List Rat)} {vs : List Value} {S P P' Q Q' : Nat → Prop} {i n base g : Nat}
theorem Rows.nil : Rows c L P w [] [] := ⟨rfl, by simp⟩
theorem Rows.md (h : Rows c L P w vs m) (hm : Md S w w') (hd : ∀ k, P k → ¬ S k) : Rows c L P w' vs m :=
  ⟨h.1, fun i row hr => by obtain ⟨u, h1, h2⟩ := h.2 i row hr; exact ⟨u, h1, h2.md hm hd⟩⟩
theorem Rows.grow (h : Rows c L P w vs m) (hm : Grow w w') : Rows c L P w' vs m :=
  ⟨h.1, fun i row hr => by obtain ⟨u, h1, h2⟩ := h.2 i row hr; exact ⟨u, h1, h2.grow hm⟩⟩
theorem Rows.mono (h : Rows c L P w vs m) (hq : ∀ k, k < w.heap.size → P k → Q k) : Rows c L Q w vs m :=
  ⟨h.1, fun i row hr => by obtain ⟨u, h1, h2⟩ := h.2 i row hr; exact ⟨u, h1, h2.mono hq⟩⟩
theorem Rows.le (h : Rows c L P w vs m) (hl : L ≤ M) : Rows c M P w vs m :=
  ⟨h.1, fun i row hr => by obtain ⟨u, h1, h2⟩ := h.2 i row hr; exact ⟨u, h1, h2.le hl⟩⟩
theorem Rows.refit (h : Rows true L P w vs m) (hf : ∀ row ∈ m, ∀ x ∈ row, FitQ M x) : Rows c M P w vs m :=
  ⟨h.1, fun i row hr => by obtain ⟨u, h1, h2⟩ := h.2 i row hr; exact ⟨u, h1, h2.refit (hf row (List.mem_of_getElem? hr))⟩⟩
theorem Rows.snoc (h : Rows c L P w vs m) (hv : Vec c L P w u row) : Rows c L P w (vs ++ [u]) (m ++ [row]) := by
  refine ⟨by simp [h.1], fun i r hr => ?_⟩
  rw [List.getElem?_append] at hr
  rw [List.getElem?_append, h.1]
  split at hr
  · rename_i hi
    rw [if_pos hi]; exact h.2 i r hr
  · rename_i hi
    rw [if_neg hi]
    have hlt := (List.getElem?_eq_some_iff.1 hr).1
    have h0 : i - m.length = 0 := by simp at hlt; omega
    rw [h0] at hr ⊢
    simp at hr
    subst hr
    exact ⟨u, rfl, hv⟩
theorem Rows.set (h : Rows c L P w vs m) (hv : Vec c L P w u row) : Rows c L P w (vs.set i u) (m.set i row) := by
  refine ⟨by simp [h.1], fun j r hr => ?_⟩
  rw [List.getElem?_set] at hr
  rw [List.getElem?_set, h.1]
  split at hr
  · rename_i hij
    rw [if_pos hij]
    split at hr
    · rename_i hlt
      rw [if_pos hlt]
      cases hr
      exact ⟨u, rfl, hv⟩
    · cases hr
  · rename_i hij
    rw [if_neg hij]; exact h.2 j r hr
theorem vcells_one {u : Value} (h : u.oneCell' = true) : u.cells.toList = [u] := by
  have hc : u.cells = #[u] := by cases u <;> first | rfl | simp [Value.oneCell'] at h
  rw [hc]
theorem Mat.md (h : Mat c L P P' w v m) (hm : Md S w w') (hd : ∀ k, P k → ¬ S k) (hd' : ∀ k, P' k → ¬ S k) : Mat c L P P' w' v m := by
  obtain ⟨vs, h1, h2⟩ := h; exact ⟨vs, h1.md hm hd, h2.md hm hd'⟩
theorem Mat.grow (h : Mat c L P P' w v m) (hg : Grow w w') : Mat c L P P' w' v m := by
  obtain ⟨vs, h1, h2⟩ := h; exact ⟨vs, h1.keep hg.kp, h2.grow hg⟩
theorem Mat.mono (h : Mat c L P P' w v m) (hq : ∀ k, k < w.heap.size → P k → Q k) (hq' : ∀ k, k < w.heap.size → P' k → Q' k) : Mat c L Q Q' w v m := by
  obtain ⟨vs, h1, h2⟩ := h; exact ⟨vs, h1.mono hq, h2.mono hq'⟩
theorem Mat.le (h : Mat c L P P' w v m) (hl : L ≤ M) : Mat c M P P' w v m := by
  obtain ⟨vs, h1, h2⟩ := h; exact ⟨vs, h1, h2.le hl⟩
theorem Mat.nil : Mat c L P P' w (.slice none 0 0) [] := ⟨[], Sli.nil, Rows.nil⟩
theorem Mat.lim (h : Mat c L P P' w v m) : m.length ≤ 1099511627776 := by obtain ⟨cs, h1, h2⟩ := h; exact h1.lim
theorem Mat.len (h : Mat c L P P' w v m) : lenV (.slice 1) v = some (.int .i64 m.length) := by obtain ⟨cs, h1, h2⟩ := h; exact h1.len
theorem Mat.shape (h : Mat c L P P' w v m) : ∃ a cap, v = .slice a m.length cap ∧ m.length ≤ cap := by obtain ⟨cs, h1, h2⟩ := h; exact h1.shape
theorem Mat.one (h : Mat c L P P' w v m) : v.oneCell' = true := by obtain ⟨a, cap, rfl, _⟩ := h.shape; rfl
theorem Mat.idx (h : Mat c L P P' w v m) {k : IntKind} (hi : i < m.length) : ∃ x, indexAddrV (.slice 1) v (.int k i) = some x := by obtain ⟨cs, h1, h2⟩ := h; exact h1.idx hi
theorem Mat.load {C : Ctx} (hC : C.P = CC.P) (h : Mat c L P P' w v m) {k : IntKind} {a : Value} (ha : indexAddrV (.slice 1) v (.int k i) = some a) (hx : m[i]? = some row) {K : Value → World → Prop}
    (hk : ∀ u, Vec c L P' w u row → K u w) : LoadP C 23 a w K := by
  obtain ⟨vs, h1, h2⟩ := h
  obtain ⟨u, hu, hv⟩ := h2.2 i row hx
  exact h1.load1 (C := C) (t := 23) (by rw [hC]; exact ti23) ha hu (hk u hv)
theorem MatO.mat (h : MatO c L P base w v m) (hn : m.length ≤ 1099511627776) : Mat c L (fun k => base ≤ k) P w v m := by
  obtain ⟨vs, h1, h2⟩ := h; exact ⟨vs, Vc.Own.sli h1 hn (fun g hg _ => hg), h2⟩
theorem MatO.nil : MatO c L P base w (.slice none 0 0) [] := ⟨[], Vc.Own.nil _ _ _ _, Rows.nil⟩
theorem MatO.md (h : MatO c L P base w v m) (hm : Md S w w') (hd : ∀ k, v.ownBlock = some k → ¬ S k) (hd' : ∀ k, P k → ¬ S k) : MatO c L P base w' v m := by
  obtain ⟨vs, h1, h2⟩ := h; exact ⟨vs, Vc.Own.md h1 hm hd, h2.md hm hd'⟩
theorem MatO.grow (h : MatO c L P base w v m) (hg : Grow w w') : MatO c L P base w' v m := by
  obtain ⟨vs, h1, h2⟩ := h; exact ⟨vs, Vc.Own.grow h1 hg, h2.grow hg⟩
theorem MatO.mono (h : MatO c L P base w v m) (hq : ∀ k, k < w.heap.size → P k → Q k) : MatO c L Q base w v m := by
  obtain ⟨vs, h1, h2⟩ := h; exact ⟨vs, h1, h2.mono hq⟩
theorem MatO.le (h : MatO c L P base w v m) (hl : L ≤ M) : MatO c M P base w v m := by
  obtain ⟨vs, h1, h2⟩ := h; exact ⟨vs, h1, h2.le hl⟩
theorem MatO.refit (h : MatO true L P base w v m) (hf : ∀ row ∈ m, ∀ x ∈ row, FitQ M x) : MatO c M P base w v m := by
  obtain ⟨vs, h1, h2⟩ := h; exact ⟨vs, h1, h2.refit hf⟩
theorem MatO.block (h : MatO c L P base w v m) : ∀ k, v.ownBlock = some k → base ≤ k ∧ k < w.heap.size := by
  obtain ⟨cs, h1, h2⟩ := h; exact Vc.Own.block h1
theorem MatO.len (h : MatO c L P base w v m) : ∃ a cap, v = .slice a m.length cap := by
  obtain ⟨cs, h1, h2⟩ := h; exact Vc.Own.len h1
theorem MatO.one (h : MatO c L P base w v m) : v.oneCell' = true := by obtain ⟨a, cap, rfl⟩ := h.len; rfl
theorem MatO.idx (h : MatO c L P base w o m) {k : IntKind} (hi : i < m.length) :
    ∃ g, o.ownBlock = some g ∧ indexAddrV (.slice 1) o (.int k i) = some (.pointer (some ⟨g, i, none⟩)) := by
  obtain ⟨vs, h1, h2⟩ := h
  have := Vc_idx h1 (k := k) hi
  simpa using this
end
end Go.Proofs.YtaajkcngcalgoaaGreat
namespace Go.Vc
open Go
def PhS (S : Nat → Prop) (a b : Nat × World) : Prop := (a.1 = b.1 ∧ Grow a.2 b.2) ∨ (a.1 < b.1 ∧ Md S a.2 b.2)
section
variable {S : Nat → Prop} {n m : Nat} {a b w w' : World}
theorem PhS.grow (S : Nat → Prop) (n : Nat) (a b : World) (h : Grow a b) : PhS S (n, a) (n, b) := .inl ⟨rfl, h⟩
theorem PhS.trans (S : Nat → Prop) (a b c : Nat × World) (h : PhS S a b) (h' : PhS S b c) : PhS S a c := by
  rcases h with ⟨e, g⟩ | ⟨h, g⟩ <;> rcases h' with ⟨e', g'⟩ | ⟨h', g'⟩
  · exact .inl ⟨e.trans e', g.trans g'⟩
  · exact .inr ⟨e ▸ h', (Md.grow g).trans g'⟩
  · exact .inr ⟨e' ▸ h, g.trans (Md.grow g')⟩
  · exact .inr ⟨Nat.lt_trans h h', g.trans g'⟩
theorem PhS.md (h : PhS S (n, a) (m, b)) : Md S a b := by
  rcases h with ⟨_, g⟩ | ⟨_, g⟩
  · exact Md.grow g
  · exact g
theorem PhS.z (h : PhS S (0, a) (n, b)) (hn : n ≤ 0) : n = 0 ∧ Grow a b := by
  rcases h with ⟨e, g⟩ | ⟨h, g⟩
  · exact ⟨e.symm, g⟩
  · have : 0 < n := h; omega
theorem PhS.z0 (h : PhS S (0, a) (0, b)) : Grow a b := (PhS.z h (Nat.le_refl _)).2
theorem PhS.next (h : Md S a b) : PhS S (n, a) (n + 1, b) := .inr ⟨Nat.lt_succ_self n, h⟩
theorem Ph.z (h : Ph (0, a) (n, b)) (hn : n ≤ 0) : n = 0 ∧ Grow a b := by
  rcases h with ⟨e, g⟩ | h
  · exact ⟨e.symm, g⟩
  · have : 0 < n := h; omega
theorem Ph.next : Ph (n, a) (n + 1, b) := .inr (Nat.lt_succ_self n)
def One (base : Nat) (e : TypeId) (w : World) (s : Value) (cs : List Value) : Prop := ∃ g, base ≤ g ∧ s = .slice (some ⟨g, 0, none⟩) 1 1 ∧ Blk w g e cs
variable {base : Nat} {e t sz bytes : Nat} {s v o : Value} {cs xs zero : List Value} {agg : Bool} {C : Ctx}
theorem One.md (h : One base e w s cs) (hm : Md S w w') (hd : ∀ k, S k → k < base) : One base e w' s cs := by
  obtain ⟨g, h1, h2, h3⟩ := h
  exact ⟨g, h1, h2, h3.md hm fun hs => by have := hd g hs; omega⟩
theorem One.sli (h : One base e w s cs) (hl : cs.length = sz) : Sli (fun _ _ => True) w e sz s 1 cs := by
  obtain ⟨g, h1, rfl, h3⟩ := h
  exact ⟨⟨by omega, by decide⟩, .inr ⟨g, 0, 1, rfl, Nat.le_refl _, trivial, _, _, h3, fun j u hu => by simpa using hu⟩⟩
theorem One.own (h : One base e w s cs) (hl : cs.length = sz) : Own w base e sz s 1 cs := by
  obtain ⟨g, h1, rfl, h3⟩ := h
  exact Own.lit h3 (by omega) h1 (by decide)
theorem LitP.one {K : Value → World → Prop} (hs : SL C.P t e) (h : TI C.P e sz agg zero bytes) (hz : zero.length = sz) (hp : 0 < sz) (hsz : sz ≤ 16777216) (hl : v.cells.toList.length = sz)
    (hk : ∀ s w', Grow w w' → One w.heap.size e w' s v.cells.toList → K s w') : LitP C t 1 [(0, v)] w K := by
  refine LitP.mk (C := C) hs h hz hp (by omega) (cs := v.cells.toList) ?_ fun g w1 hg1 hlt hlt' hbl => hk _ _ hg1 ⟨g, hlt, rfl, hbl⟩
  have e1 : rep 1 zero = zero := by simp [rep]
  simp only [fillV, e1, Nat.zero_mul]
  rw [if_pos ⟨hl, by omega⟩, over_nil_left _ _ (by omega)]
theorem AppendP.one {K : Value → World → Prop} (hs : SL C.P t e) (h : TI C.P e sz agg zero bytes) (hz : zero.length = sz) (hp : 0 < sz) {n base' : Nat} (ho : Own w base e sz o n xs) (h1 : One base' e w s cs) (hl : cs.length = sz)
    (hc : ∀ u ∈ cs, u.oneCell' = true) (hb : (n + 1) * bytes ≤ 140737488355328) (hm : n + 1 ≤ maxLen) (hw : base ≤ w.heap.size) (he : e ≠ 199)
    (hk : ∀ o' w', Own w' base e sz o' (n + 1) (xs ++ cs) → Md (fun g => o.ownBlock = some g) w w' → (∀ g, o'.ownBlock = some g → o.ownBlock = some g ∨ w.heap.size ≤ g) → K o' w') :
    AppendP C #[t, t] t [o, s] w K :=
  AppendP.own (C := C) hs h hz hp ho (h1.sli hl) hc hb hm hw fun o' w' ho' hu hf => hk o' w' ho' (Md.own hu ho he) hf
theorem fc {f : FuncId} {args : List Value} {P A : Value → World → Prop} {T : World → World → Prop} (h : CallP C f args w fun r w' => Grow w w' ∧ P r w') (hs : ∀ r w' w'', P r w' → T w' w'' → A r w'') :
    CallP C f args w fun r w' => Grow w w' ∧ ∀ w'', T w' w'' → A r w'' :=
  h.mono fun r w' ⟨hg, hp⟩ => ⟨hg, fun w'' ht => hs r w' w'' hp ht⟩
theorem fg {f : FuncId} {args : List Value} {P : Value → World → Prop} {A : Value → Nat → World → Prop} (h : CallP C f args w fun r w' => Grow w w' ∧ P r w') (hs : ∀ r w' m w'', P r w' → PhS S (n, w') (m, w'') → A r m w'') :
    CallP C f args w fun r w' => Grow w w' ∧ ∀ m w'', PhS S (n, w') (m, w'') → A r m w'' :=
  h.mono fun r w' ⟨hg, hp⟩ => ⟨hg, fun m w'' ht => hs r w' m w'' hp ht⟩
end
end Go.Vc
namespace Go.Proofs.YtaajkcngcalgoaaGreat
open Go Go.Vc Go.Spx
attribute [local irreducible] Tryz.prog
section
variable {c c' : Bool} {L M base base' : Nat} {w w' : World} {v o s u : Value} {x : Rat} {xs row : List Rat} {m : List (List Rat)} {S P : Nat → Prop}
theorem litQ {K : Value → World → Prop} (hv : QR c L w v x) (hk : ∀ s w', Grow w w' → One w.heap.size 30 w' s v.cells.toList → K s w') : LitP CC 23 1 [(0, v)] w K :=
  LitP.one (C := CC) sl23 ti30 rfl (by decide) (by decide) hv.toList.1 hk
theorem appQ1 {K : Value → World → Prop} (ho : VecO c L base w o xs) (h1 : One base' 30 w s v.cells.toList) (hv : QR c L w v x) (hb : base ≤ w.heap.size) (hn : xs.length < 1099511627776)
    (hk : ∀ o' w', VecO c L base w' o' (xs ++ [x]) → Md (fun g => o.ownBlock = some g) w w' → (∀ g, o'.ownBlock = some g → o.ownBlock = some g ∨ w.heap.size ≤ g) → K o' w') :
    AppendP CC #[23, 23] 23 [o, s] w K := by
  obtain ⟨cs, h3, h4⟩ := ho
  have hl := hv.toList
  refine AppendP.one (C := CC) sl23 ti30 rfl (by decide) h3 h1 hl.1 hl.2.1 (by omega) (by simp only [maxLen]; omega) hb (by decide) fun o' w' ho hm hf => ?_
  exact hk o' w' ⟨_, by simpa using ho, (h4.snoc hv).md hm⟩ hm hf
theorem litV {C : Ctx} (hC : C.P = CC.P) {K : Value → World → Prop} (hv : Vec c L P w u row) (hk : ∀ s w', Grow w w' → One w.heap.size 23 w' s [u] → K s w') : LitP C 22 1 [(0, u)] w K := by
  have hl := vcells_one hv.one
  refine LitP.one (C := C) (sz := 1) (by rw [hC]; exact sl22) (by rw [hC]; exact ti23) rfl (by decide) (by decide) (by rw [hl]; rfl) fun s w' hg h1 => hk s w' hg (by rw [hl] at h1; exact h1)
end
end Go.Proofs.YtaajkcngcalgoaaGreat
set_option maxRecDepth 100000
set_option linter.unusedVariables false
namespace Go.Proofs.YtaajkcngcalgoaaGreat
open Go Go.Vc
def V159 (y : Nat) (a0 a1 a2 : Value) (w : World) (R : Value → World → Prop) : Prop :=
  LoadP (CY y) 23 a1 w fun x5 w_1 =>
  ∃ x6, lenV (τ 23) x5 = some x6 ∧
  LoadP (CY y) 23 a2 w_1 fun x7 w_2 =>
  ∃ x8, lenV (τ 23) x7 = some x8 ∧
  ∃ x9, maxV x6 x8 = some x9 ∧
  ∃ (I : Value → World → Prop) (μ : Value → World → Nat), I (.int .i64 0) w_2 ∧
  ∀ y10 : Value, ∀ (h : Nat → Value) (w_3 : World), I y10 w_3 →
    ∃ x11, binV (.int .i64) .lss y10 x9 = some x11 ∧
    CondP x11 (
      ∃ (T : Nat × World → Nat × World → Prop) (L : List Value → World → Prop), Hg T ∧ Ht T ∧ Hl L w_3 ∧
      ∃ A15 A17 A18 A20 A22 : Value → Nat × World → Prop,
      (Fl T w_3 0 fun n z => (LoadP (CY y) 23 a1 z (Gk T A15 n z))) ∧
      (∀ v15 : Value, Fl T w_3 0 fun n z => A15 v15 (n, z) → (CallP (CY y) 88 [v15, y10] z (Gk T A17 n z))) ∧
      (∀ v15 v17 : Value, Fl T w_3 0 fun n z => (LoadP (CY y) 23 a2 z (Gk T A18 n z))) ∧
      (∀ v15 v17 v18 : Value, Fl T w_3 0 fun n z => A15 v15 (n, z) → A17 v17 (n, z) → A18 v18 (n, z) → (CallP (CY y) 88 [v18, y10] z (Gk T A20 n z))) ∧
      (∀ v15 v17 v18 v20 : Value, Fl T w_3 0 fun n z => A15 v15 (n, z) → A17 v17 (n, z) → A18 v18 (n, z) → A20 v20 (n, z) → (Is (buildV (τ 135) [(0, v17), (1, v20)]))) ∧
      (∀ v15 v17 v18 v20 : Value, Fl T w_3 1 fun n z => n = 0 → L [] z → A15 v15 (n, z) → A17 v17 (n, z) → A18 v18 (n, z) → A20 v20 (n, z) → callV (CY y) a0 [y10, (gd (buildV (τ 135) [(0, v17), (1, v20)]))] z fun x y => Gl T L A22 n z [x] x y) ∧
      (∀ v15 v17 v18 v20 v22 : Value, Fl T w_3 1 fun n z => A15 v15 (n, z) → A17 v17 (n, z) → A18 v18 (n, z) → A20 v20 (n, z) → A22 v22 (n, z) → (Is (unV .not v22))) ∧
      ∀ v15 v17 v18 v20 v22 : Value, ∀ (h_1 : Nat → Value) (w_4 : World), T (0, w_3) (1, w_4) → A15 v15 (1, w_4) → A17 v17 (1, w_4) → A18 v18 (1, w_4) → A20 v20 (1, w_4) → A22 v22 (1, w_4) → L [v22] w_4 → 
      CondP (gd (unV .not v22)) (
        R (.tuple #[]) w_4) (
        ∃ x24, binV (.int .i64) .add y10 (.int .i64 1) = some x24 ∧
        I x24 w_4 ∧ μ x24 w_4 < μ y10 w_3)) (
      R (.tuple #[]) w_3)
theorem V159_eq (y : Nat) (a0 a1 a2 : Value) (w : World) (R : Value → World → Prop) : V159 y a0 a1 a2 w R = FnP (CY y) { keep := fun | 1 => [10] | _ => [], lin := fun | 3 => [9] | _ => [] } Tryz.f159 [a0, a1, a2] w R := by kernel_rfl
theorem call159 {y : Nat} {a0 a1 a2 : Value} {w : World} {R : Value → World → Prop} (h : V159 y a0 a1 a2 w R) : CallP (CY y) 159 [a0, a1, a2] w R :=
  call_of_vc (CY.ok y) _ Tryz.func159 (V159_eq y a0 a1 a2 w R ▸ h)
def V88 (a0 a1 : Value) (w : World) (R : Value → World → Prop) : Prop :=
  AllocP CC 30 w fun x4 w_1 =>
  ∃ x7, lenV (τ 23) a0 = some x7 ∧
  ∃ x8, binV (.int .i64) .lss a1 x7 = some x8 ∧
  CondP x8 (
    ∃ x11, indexAddrV (τ 23) a0 a1 = some x11 ∧
    LoadP CC 30 x11 w_1 fun x12 w_2 =>
    StoreP CC 30 x4 x12 w_2 fun w_3 =>
    ∃ ad r, x4 = .pointer (some ad) ∧ (loadVar 30 ad).run CC.P w_3 = .ok r w_3 ∧
    R r w_3) (
    ∃ x13, buildV (τ 30) [] = some x13 ∧
    StoreP CC 30 x4 x13 w_1 fun w_4 =>
    ∃ ad_1 r_1, x4 = .pointer (some ad_1) ∧ (loadVar 30 ad_1).run CC.P w_4 = .ok r_1 w_4 ∧
    R r_1 w_4)
theorem V88_eq (a0 a1 : Value) (w : World) (R : Value → World → Prop) : V88 a0 a1 w R = FnP CC { keep := fun _ => [], lin := fun _ => [] } Tryz.f88 [a0, a1] w R := by kernel_rfl
theorem call88 {a0 a1 : Value} {w : World} {R : Value → World → Prop} (h : V88 a0 a1 w R) : CallP CC 88 [a0, a1] w R :=
  call_of_vc CC.ok _ Tryz.func88 (V88_eq a0 a1 w R ▸ h)
def V93 (a0 a1 : Value) (w : World) (R : Value → World → Prop) : Prop :=
  BoxP CC 23 a0 w fun x2 w_1 =>
  BoxP CC 23 a1 w_1 fun x3 w_2 =>
  ∃ x5, some (Value.func (.func 159) #[] #[x2, x3]) = some x5 ∧
  R x5 w_2
theorem V93_eq (a0 a1 : Value) (w : World) (R : Value → World → Prop) : V93 a0 a1 w R = FnP CC { keep := fun _ => [], lin := fun _ => [] } Tryz.f93 [a0, a1] w R := by kernel_rfl
theorem call93 {a0 a1 : Value} {w : World} {R : Value → World → Prop} (h : V93 a0 a1 w R) : CallP CC 93 [a0, a1] w R :=
  call_of_vc CC.ok _ Tryz.func93 (V93_eq a0 a1 w R ▸ h)
def V75 (a0 a1 a2 : Value) (w : World) (R : Value → World → Prop) : Prop :=
  BoxP CC 60 a2 w fun x5 w_1 =>
  AllocP CC 23 w_1 fun x6 w_2 =>
  CallP CC 93 [a0, a1] w_2 fun x11 w_3 =>
  ∃ f cap, x11 = .func (.func f) #[] cap ∧ hasB f = true ∧ ∃ Stay N Args, Iter CC f cap.toList w_3 Stay N Args ∧ (∀ k w' vs, Args k w' vs → vs.length = 2) ∧ ∃ (I : Nat → World → Prop) (J : Jmp → World → Prop),
  (∀ w', Vc.Sys w_3.heap.size w_3 w' → I 0 w') ∧ (∀ k w', I k w' → Stay k w') ∧
  (∀ k, k < N → ∀ x12 : Value, ∀ x13 : Value, ∀ w_4, I k w_4 → Args k w_4 [x12, x13] →
    AllocP CC 135 w_4 fun x8 w_8 =>
    StoreP CC 135 x8 x13 w_8 fun w_9 =>
    ∀ w_5, Vc.Sys w_3.heap.size w_9 w_5 →
    ∃ (T : Nat × World → Nat × World → Prop) (L : List Value → World → Prop), Hg T ∧ Ht T ∧ Hl L w_5 ∧
    ∃ A14 A15 A17 A19 A20 A21 A22 As9 : Value → Nat × World → Prop,
    (Fl T w_5 0 fun n z => (LoadP CC 23 x6 z (Gk T A14 n z))) ∧
    (∀ v14 : Value, Fl T w_5 0 fun n z => (LoadP CC 60 x5 z (Gk T A15 n z))) ∧
    (∀ v14 v15 : Value, Fl T w_5 0 fun n z => (Is (indexAddrV (τ 135) x8 (.int .i64 0)))) ∧
    (∀ v14 v15 : Value, Fl T w_5 0 fun n z => (LoadP CC 30 (gd (indexAddrV (τ 135) x8 (.int .i64 0))) z (Gk T A17 n z))) ∧
    (∀ v14 v15 v17 : Value, Fl T w_5 0 fun n z => (Is (indexAddrV (τ 135) x8 (.int .i64 1)))) ∧
    (∀ v14 v15 v17 : Value, Fl T w_5 0 fun n z => (LoadP CC 30 (gd (indexAddrV (τ 135) x8 (.int .i64 1))) z (Gk T A19 n z))) ∧
    (∀ v14 v15 v17 v19 : Value, Fl T w_5 0 fun n z => A15 v15 (n, z) → A17 v17 (n, z) → A19 v19 (n, z) → (callV CC v15 [v17, v19] z (Gk T A20 n z))) ∧
    (∀ v14 v15 v17 v19 v20 : Value, Fl T w_5 0 fun n z => A15 v15 (n, z) → A17 v17 (n, z) → A19 v19 (n, z) → A20 v20 (n, z) → (LitP CC 23 1 [(0, v20)] z (Gk T A21 n z))) ∧
    (∀ v14 v15 v17 v19 v20 v21 : Value, Fl T w_5 1 fun n z => n = 0 → L [] z → A14 v14 (n, z) → A15 v15 (n, z) → A17 v17 (n, z) → A19 v19 (n, z) → A20 v20 (n, z) → A21 v21 (n, z) → AppendP CC #[23, 23] 23 [v14, v21] z fun x y => Gl T L A22 n z [x] x y) ∧
    (∀ v14 v15 v17 v19 v20 v21 v22 : Value, Fl T w_5 2 fun n z => n = 1 → L [v22] z → A14 v14 (n, z) → A15 v15 (n, z) → A17 v17 (n, z) → A19 v19 (n, z) → A20 v20 (n, z) → A21 v21 (n, z) → A22 v22 (n, z) → StoreP CC 23 x6 v22 z fun y => Gl T L As9 n z [v22, x6] undef y) ∧
    ∀ v14 v15 v17 v19 v20 v21 v22 vs9 : Value, ∀ (h : Nat → Value) (w_10 : World), T (0, w_5) (2, w_10) → A14 v14 (2, w_10) → A15 v15 (2, w_10) → A17 v17 (2, w_10) → A19 v19 (2, w_10) → A20 v20 (2, w_10) → A21 v21 (2, w_10) → A22 v22 (2, w_10) → As9 vs9 (2, w_10) → L [v22, x6] w_10 → 
    ∀ w', Vc.Sys w_3.heap.size w_10 w' → I (k + 1) w') ∧
  (∀ w_6, I N w_6 →
    LoadP CC 23 x6 w_6 fun x23 w_11 =>
    StoreP CC 23 x6 x23 w_11 fun w_12 =>
    ∀ w_13, Vc.Sys w.heap.size w_12 w_13 →
    ∃ ad r, x6 = .pointer (some ad) ∧ (loadVar 23 ad).run CC.P w_13 = .ok r w_13 ∧
    R r w_13) ∧
  (∀ j w_7, J j w_7 → match j with
    | .ret =>
      ∀ w_14, Vc.Sys w.heap.size w_7 w_14 →
      ∃ ad_1 r_1, x6 = .pointer (some ad_1) ∧ (loadVar 23 ad_1).run CC.P w_14 = .ok r_1 w_14 ∧
      R r_1 w_14
    | .exit i =>
      if i = 0 then (
        LoadP CC 23 x6 w_7 fun x23_1 w_15 =>
        StoreP CC 23 x6 x23_1 w_15 fun w_16 =>
        ∀ w_17, Vc.Sys w.heap.size w_16 w_17 →
        ∃ ad_2 r_2, x6 = .pointer (some ad_2) ∧ (loadVar 23 ad_2).run CC.P w_17 = .ok r_2 w_17 ∧
        R r_2 w_17) else
      False)
theorem V75_eq (a0 a1 a2 : Value) (w : World) (R : Value → World → Prop) : V75 a0 a1 a2 w R = FnP CC { keep := fun _ => [], lin := fun | 3 => [8, 9] | _ => [] } Tryz.f75 [a0, a1, a2] w R := by kernel_rfl
theorem call75 {a0 a1 a2 : Value} {w : World} {R : Value → World → Prop} (h : V75 a0 a1 a2 w R) : CallP CC 75 [a0, a1, a2] w R :=
  call_of_vc CC.ok _ Tryz.func75 (V75_eq a0 a1 a2 w R ▸ h)
def V104 (a0 a1 : Value) (w : World) (R : Value → World → Prop) : Prop :=
  BoxP CC 30 a0 w fun x2 w_1 =>
  LoadP CC 30 x2 w_1 fun x5 w_2 =>
  CallP CC 24 [x5, a1, (.slice none 0 0)] w_2 fun x7 w_3 =>
  R x7 w_3
theorem V104_eq (a0 a1 : Value) (w : World) (R : Value → World → Prop) : V104 a0 a1 w R = FnP CC { keep := fun _ => [], lin := fun _ => [] } Tryz.f104 [a0, a1] w R := by kernel_rfl
theorem call104 {a0 a1 : Value} {w : World} {R : Value → World → Prop} (h : V104 a0 a1 w R) : CallP CC 104 [a0, a1] w R :=
  call_of_vc CC.ok _ Tryz.func104 (V104_eq a0 a1 w R ▸ h)
def V24 (a0 a1 a2 : Value) (w : World) (R : Value → World → Prop) : Prop :=
  BoxP CC 30 a0 w fun x3 w_1 =>
  ∃ x9, some (Value.func (.func 76) #[] #[x3]) = some x9 ∧
  CallP CC 75 [a1, a2, x9] w_1 fun x10 w_2 =>
  R x10 w_2
theorem V24_eq (a0 a1 a2 : Value) (w : World) (R : Value → World → Prop) : V24 a0 a1 a2 w R = FnP CC { keep := fun _ => [], lin := fun _ => [] } Tryz.f24 [a0, a1, a2] w R := by kernel_rfl
theorem call24 {a0 a1 a2 : Value} {w : World} {R : Value → World → Prop} (h : V24 a0 a1 a2 w R) : CallP CC 24 [a0, a1, a2] w R :=
  call_of_vc CC.ok _ Tryz.func24 (V24_eq a0 a1 a2 w R ▸ h)
def V31 (a0 a1 : Value) (w : World) (R : Value → World → Prop) : Prop :=
  ∃ x7, maxV a1 (.int .i64 0) = some x7 ∧
  ∃ x8, minV x7 (.int .i64 65536) = some x8 ∧
  ∃ (I : Value → Value → World → Prop) (μ : Value → Value → World → Nat), I (.slice none 0 0) (.int .i64 0) w ∧
  ∀ y4 : Value, ∀ y9 : Value, ∀ (h : Nat → Value) (w_1 : World), I y4 y9 w_1 →
    ∃ x10, binV (.int .i64) .lss y9 x8 = some x10 ∧
    CondP x10 (
      CallP CC 88 [a0, y9] w_1 fun x15 w_2 =>
      CallP CC 87 [x15] w_2 fun x16 w_3 =>
      LitP CC 23 1 [(0, x16)] w_3 fun x17 w_4 =>
      AppendP CC #[23, 23] 23 [y4, x17] w_4 fun x18 w_5 =>
      ∃ x19, binV (.int .i64) .add y9 (.int .i64 1) = some x19 ∧
      I x18 x19 w_5 ∧ μ x18 x19 w_5 < μ y4 y9 w_1) (
      R y4 w_1)
theorem V31_eq (a0 a1 : Value) (w : World) (R : Value → World → Prop) : V31 a0 a1 w R = FnP CC { keep := fun | 2 => [4, 9] | _ => [], lin := fun _ => [] } Tryz.f31 [a0, a1] w R := by kernel_rfl
theorem call31 {a0 a1 : Value} {w : World} {R : Value → World → Prop} (h : V31 a0 a1 w R) : CallP CC 31 [a0, a1] w R :=
  call_of_vc CC.ok _ Tryz.func31 (V31_eq a0 a1 w R ▸ h)
def V52 (a0 a1 : Value) (w : World) (R : Value → World → Prop) : Prop :=
  ∃ x7, maxV a0 (.int .i64 0) = some x7 ∧
  ∃ x8, minV x7 (.int .i64 65536) = some x8 ∧
  MakeP CC 23 x8 x8 w fun x9 w_1 =>
  (Fw Grow w_1 fun z => (Is (binV (.int .i64) .geq a1 (.int .i64 0)))) ∧
  (Fw Grow w_1 fun z => ((gd (binV (.int .i64) .geq a1 (.int .i64 0))) = .bool true → (Is (lenV (τ 23) x9)))) ∧
  (Fw Grow w_1 fun z => ((gd (binV (.int .i64) .geq a1 (.int .i64 0))) = .bool true → (Is (binV (.int .i64) .lss a1 (gd (lenV (τ 23) x9)))))) ∧
  (Fw Grow w_1 fun z => (Is (pickV (gd (binV (.int .i64) .geq a1 (.int .i64 0))) (gd (binV (.int .i64) .lss a1 (gd (lenV (τ 23) x9)))) (.bool false)))) ∧
  ∀ (h : Nat → Value) (w_2 : World), Grow w_1 w_2 → 
  CondP (gd (pickV (gd (binV (.int .i64) .geq a1 (.int .i64 0))) (gd (binV (.int .i64) .lss a1 (gd (lenV (τ 23) x9)))) (.bool false))) (
    CallP CC 36 [(.int .i64 1)] w_2 fun x20 w_3 =>
    ∃ x21, indexAddrV (τ 23) x9 a1 = some x21 ∧
    StoreP CC 30 x21 x20 w_3 fun w_4 =>
    R x9 w_4) (
    R x9 w_2)
theorem V52_eq (a0 a1 : Value) (w : World) (R : Value → World → Prop) : V52 a0 a1 w R = FnP CC { keep := fun _ => [], lin := fun _ => [] } Tryz.f52 [a0, a1] w R := by kernel_rfl
theorem call52 {a0 a1 : Value} {w : World} {R : Value → World → Prop} (h : V52 a0 a1 w R) : CallP CC 52 [a0, a1] w R :=
  call_of_vc CC.ok _ Tryz.func52 (V52_eq a0 a1 w R ▸ h)
def V73 (a0 : Value) (w : World) (R : Value → World → Prop) : Prop :=
  ∃ x6, lenV (τ 102) a0 = some x6 ∧
  ∃ (I : Value → Value → World → Prop) (μ : Value → Value → World → Nat), I (.slice none 0 0) (.int .i64 0) w ∧
  ∀ y2 : Value, ∀ y7 : Value, ∀ (h : Nat → Value) (w_1 : World), I y2 y7 w_1 →
    ∃ x8, binV (.int .i64) .lss y7 x6 = some x8 ∧
    CondP x8 (
      ∃ x9, indexAddrV (τ 102) a0 y7 = some x9 ∧
      LoadP CC 2 x9 w_1 fun x10 w_2 =>
      CallP CC 36 [x10] w_2 fun x13 w_3 =>
      LitP CC 23 1 [(0, x13)] w_3 fun x14 w_4 =>
      AppendP CC #[23, 23] 23 [y2, x14] w_4 fun x15 w_5 =>
      ∃ x16, binV (.int .i64) .add y7 (.int .i64 1) = some x16 ∧
      I x15 x16 w_5 ∧ μ x15 x16 w_5 < μ y2 y7 w_1) (
      R y2 w_1)
theorem V73_eq (a0 : Value) (w : World) (R : Value → World → Prop) : V73 a0 w R = FnP CC { keep := fun | 2 => [2, 7] | _ => [], lin := fun _ => [] } Tryz.f73 [a0] w R := by kernel_rfl
theorem call73 {a0 : Value} {w : World} {R : Value → World → Prop} (h : V73 a0 w R) : CallP CC 73 [a0] w R :=
  call_of_vc CC.ok _ Tryz.func73 (V73_eq a0 w R ▸ h)
def V76 (a0 a1 a2 : Value) (w : World) (R : Value → World → Prop) : Prop :=
  BoxP CC 30 a0 w fun x3 w_1 =>
  BoxP CC 30 a1 w_1 fun x4 w_2 =>
  AllocP CC 30 w_2 fun x5 w_3 =>
  ∃ (T : Nat × World → Nat × World → Prop) (L : List Value → World → Prop), Hg T ∧ Ht T ∧ Hl L w_3 ∧
  ∃ A6 A7 A8 A9 A10 As5 : Value → Nat × World → Prop,
  (Fl T w_3 0 fun n z => (LoadP CC 30 a2 z (Gk T A6 n z))) ∧
  (∀ v6 : Value, Fl T w_3 0 fun n z => (LoadP CC 30 x3 z (Gk T A7 n z))) ∧
  (∀ v6 v7 : Value, Fl T w_3 0 fun n z => A6 v6 (n, z) → A7 v7 (n, z) → (CallP CC 44 [v6, v7] z (Gk T A8 n z))) ∧
  (∀ v6 v7 v8 : Value, Fl T w_3 0 fun n z => (LoadP CC 30 x4 z (Gk T A9 n z))) ∧
  (∀ v6 v7 v8 v9 : Value, Fl T w_3 0 fun n z => A6 v6 (n, z) → A7 v7 (n, z) → A8 v8 (n, z) → A9 v9 (n, z) → (CallP CC 41 [v8, v9] z (Gk T A10 n z))) ∧
  (∀ v6 v7 v8 v9 v10 : Value, Fl T w_3 1 fun n z => n = 0 → L [] z → A6 v6 (n, z) → A7 v7 (n, z) → A8 v8 (n, z) → A9 v9 (n, z) → A10 v10 (n, z) → StoreP CC 30 x5 v10 z fun y => Gl T L As5 n z [x5] undef y) ∧
  ∀ v6 v7 v8 v9 v10 vs5 : Value, ∀ (h : Nat → Value) (w_4 : World), T (0, w_3) (1, w_4) → A6 v6 (1, w_4) → A7 v7 (1, w_4) → A8 v8 (1, w_4) → A9 v9 (1, w_4) → A10 v10 (1, w_4) → As5 vs5 (1, w_4) → L [x5] w_4 → 
  ∃ ad r, x5 = .pointer (some ad) ∧ (loadVar 30 ad).run CC.P w_4 = .ok r w_4 ∧
  R r w_4
theorem V76_eq (a0 a1 a2 : Value) (w : World) (R : Value → World → Prop) : V76 a0 a1 a2 w R = FnP CC { keep := fun _ => [], lin := fun | 1 => [5] | _ => [] } Tryz.f76 [a0, a1, a2] w R := by kernel_rfl
theorem call76 {a0 a1 a2 : Value} {w : World} {R : Value → World → Prop} (h : V76 a0 a1 a2 w R) : CallP CC 76 [a0, a1, a2] w R :=
  call_of_vc CC.ok _ Tryz.func76 (V76_eq a0 a1 a2 w R ▸ h)
def V158 (a0 a1 : Value) (w : World) (R : Value → World → Prop) : Prop :=
  BoxP CC 30 a0 w fun x2 w_1 =>
  AllocP CC 30 w_1 fun x3 w_2 =>
  LoadP CC 30 a1 w_2 fun x4 w_3 =>
  LoadP CC 30 x2 w_3 fun x5 w_4 =>
  CallP CC 41 [x4, x5] w_4 fun x6 w_5 =>
  StoreP CC 30 a1 x6 w_5 fun w_6 =>
  LoadP CC 30 a1 w_6 fun x7 w_7 =>
  StoreP CC 30 x3 x7 w_7 fun w_8 =>
  ∃ ad r, x3 = .pointer (some ad) ∧ (loadVar 30 ad).run CC.P w_8 = .ok r w_8 ∧
  R r w_8
theorem V158_eq (a0 a1 : Value) (w : World) (R : Value → World → Prop) : V158 a0 a1 w R = FnP CC { keep := fun _ => [], lin := fun _ => [] } Tryz.f158 [a0, a1] w R := by kernel_rfl
theorem call158 {a0 a1 : Value} {w : World} {R : Value → World → Prop} (h : V158 a0 a1 w R) : CallP CC 158 [a0, a1] w R :=
  call_of_vc CC.ok _ Tryz.func158 (V158_eq a0 a1 w R ▸ h)
def V34 (a0 a1 : Value) (w : World) (R : Value → World → Prop) : Prop :=
  AllocP CC 30 w fun x4 w_1 =>
  CallP CC 92 [] w_1 fun x8 w_2 =>
  AllocP CC 124 w_2 fun x5 w_3 =>
  StoreP CC 124 x5 x8 w_3 fun w_4 =>
  CallP CC 93 [a0, a1] w_4 fun x11 w_5 =>
  ∃ f cap, x11 = .func (.func f) #[] cap ∧ hasB f = true ∧ ∃ Stay N Args, Iter CC f cap.toList w_5 Stay N Args ∧ (∀ k w' vs, Args k w' vs → vs.length = 2) ∧ ∃ (I : Nat → World → Prop) (J : Jmp → World → Prop),
  (∀ w', Vc.Sys w_5.heap.size w_5 w' → I 0 w') ∧ (∀ k w', I k w' → Stay k w') ∧
  (∀ k, k < N → ∀ x12 : Value, ∀ x13 : Value, ∀ w_6, I k w_6 → Args k w_6 [x12, x13] →
    AllocP CC 135 w_6 fun x7 w_10 =>
    StoreP CC 135 x7 x13 w_10 fun w_11 =>
    ∀ w_7, Vc.Sys w_5.heap.size w_11 w_7 →
    ∃ (T : Nat × World → Nat × World → Prop) (L : List Value → World → Prop), Hg T ∧ Ht T ∧ Hl L w_7 ∧
    ∃ A14 A16 A18 A19 A20 As7 : Value → Nat × World → Prop,
    (Fl T w_7 0 fun n z => (LoadP CC 124 x5 z (Gk T A14 n z))) ∧
    (∀ v14 : Value, Fl T w_7 0 fun n z => (Is (indexAddrV (τ 135) x7 (.int .i64 0)))) ∧
    (∀ v14 : Value, Fl T w_7 0 fun n z => (LoadP CC 30 (gd (indexAddrV (τ 135) x7 (.int .i64 0))) z (Gk T A16 n z))) ∧
    (∀ v14 v16 : Value, Fl T w_7 0 fun n z => (Is (indexAddrV (τ 135) x7 (.int .i64 1)))) ∧
    (∀ v14 v16 : Value, Fl T w_7 0 fun n z => (LoadP CC 30 (gd (indexAddrV (τ 135) x7 (.int .i64 1))) z (Gk T A18 n z))) ∧
    (∀ v14 v16 v18 : Value, Fl T w_7 0 fun n z => A16 v16 (n, z) → A18 v18 (n, z) → (CallP CC 44 [v16, v18] z (Gk T A19 n z))) ∧
    (∀ v14 v16 v18 v19 : Value, Fl T w_7 1 fun n z => n = 0 → L [] z → A14 v14 (n, z) → A16 v16 (n, z) → A18 v18 (n, z) → A19 v19 (n, z) → callV CC v14 [v19] z fun x y => Gl T L A20 n z [x] x y) ∧
    (∀ v14 v16 v18 v19 v20 : Value, Fl T w_7 2 fun n z => n = 1 → L [v20] z → A14 v14 (n, z) → A16 v16 (n, z) → A18 v18 (n, z) → A19 v19 (n, z) → A20 v20 (n, z) → StoreP CC 30 x4 v20 z fun y => Gl T L As7 n z [v20, x4] undef y) ∧
    ∀ v14 v16 v18 v19 v20 vs7 : Value, ∀ (h : Nat → Value) (w_12 : World), T (0, w_7) (2, w_12) → A14 v14 (2, w_12) → A16 v16 (2, w_12) → A18 v18 (2, w_12) → A19 v19 (2, w_12) → A20 v20 (2, w_12) → As7 vs7 (2, w_12) → L [v20, x4] w_12 → 
    ∀ w', Vc.Sys w_5.heap.size w_12 w' → I (k + 1) w') ∧
  (∀ w_8, I N w_8 →
    LoadP CC 30 x4 w_8 fun x21 w_13 =>
    StoreP CC 30 x4 x21 w_13 fun w_14 =>
    ∀ w_15, Vc.Sys w.heap.size w_14 w_15 →
    ∃ ad r, x4 = .pointer (some ad) ∧ (loadVar 30 ad).run CC.P w_15 = .ok r w_15 ∧
    R r w_15) ∧
  (∀ j w_9, J j w_9 → match j with
    | .ret =>
      ∀ w_16, Vc.Sys w.heap.size w_9 w_16 →
      ∃ ad_1 r_1, x4 = .pointer (some ad_1) ∧ (loadVar 30 ad_1).run CC.P w_16 = .ok r_1 w_16 ∧
      R r_1 w_16
    | .exit i =>
      if i = 0 then (
        LoadP CC 30 x4 w_9 fun x21_1 w_17 =>
        StoreP CC 30 x4 x21_1 w_17 fun w_18 =>
        ∀ w_19, Vc.Sys w.heap.size w_18 w_19 →
        ∃ ad_2 r_2, x4 = .pointer (some ad_2) ∧ (loadVar 30 ad_2).run CC.P w_19 = .ok r_2 w_19 ∧
        R r_2 w_19) else
      False)
theorem V34_eq (a0 a1 : Value) (w : World) (R : Value → World → Prop) : V34 a0 a1 w R = FnP CC { keep := fun _ => [], lin := fun | 4 => [6, 7] | _ => [] } Tryz.f34 [a0, a1] w R := by kernel_rfl
theorem call34 {a0 a1 : Value} {w : World} {R : Value → World → Prop} (h : V34 a0 a1 w R) : CallP CC 34 [a0, a1] w R :=
  call_of_vc CC.ok _ Tryz.func34 (V34_eq a0 a1 w R ▸ h)
def V38 (a0 a1 : Value) (w : World) (R : Value → World → Prop) : Prop :=
  AllocP CC 3 w fun x4 w_1 =>
  CallP CC 93 [a0, a1] w_1 fun x10 w_2 =>
  ∃ f cap, x10 = .func (.func f) #[] cap ∧ hasB f = true ∧ ∃ Stay N Args, Iter CC f cap.toList w_2 Stay N Args ∧ (∀ k w' vs, Args k w' vs → vs.length = 2) ∧ ∃ (I : Nat → World → Prop) (J : Jmp → World → Prop),
  (∀ w', Vc.Sys w_2.heap.size w_2 w' → I 0 w') ∧ (∀ k w', I k w' → Stay k w') ∧
  (∀ k, k < N → ∀ x11 : Value, ∀ x12 : Value, ∀ w_3, I k w_3 → Args k w_3 [x11, x12] →
    AllocP CC 135 w_3 fun x6 w_7 =>
    StoreP CC 135 x6 x12 w_7 fun w_8 =>
    ∀ w_4, Vc.Sys w_2.heap.size w_8 w_4 →
    ∃ x13, indexAddrV (τ 135) x6 (.int .i64 0) = some x13 ∧
    LoadP CC 30 x13 w_4 fun x14 w_9 =>
    ∃ x15, indexAddrV (τ 135) x6 (.int .i64 1) = some x15 ∧
    LoadP CC 30 x15 w_9 fun x16 w_10 =>
    CallP CC 33 [x14, x16] w_10 fun x17 w_11 =>
    ∃ x19, binV (.int .i64) .neq x17 (.int .i64 0) = some x19 ∧
    CondP x19 (
      StoreP CC 3 x4 x17 w_11 fun w_12 =>
      ∀ w', Vc.Sys w_2.heap.size w_12 w' → J .ret w') (
      ∀ w', Vc.Sys w_2.heap.size w_11 w' → I (k + 1) w')) ∧
  (∀ w_5, I N w_5 →
    StoreP CC 3 x4 (.int .i64 0) w_5 fun w_13 =>
    ∀ w_14, Vc.Sys w.heap.size w_13 w_14 →
    ∃ ad r, x4 = .pointer (some ad) ∧ (loadVar 3 ad).run CC.P w_14 = .ok r w_14 ∧
    R r w_14) ∧
  (∀ j w_6, J j w_6 → match j with
    | .ret =>
      ∀ w_15, Vc.Sys w.heap.size w_6 w_15 →
      ∃ ad_1 r_1, x4 = .pointer (some ad_1) ∧ (loadVar 3 ad_1).run CC.P w_15 = .ok r_1 w_15 ∧
      R r_1 w_15
    | .exit i =>
      if i = 0 then (
        StoreP CC 3 x4 (.int .i64 0) w_6 fun w_16 =>
        ∀ w_17, Vc.Sys w.heap.size w_16 w_17 →
        ∃ ad_2 r_2, x4 = .pointer (some ad_2) ∧ (loadVar 3 ad_2).run CC.P w_17 = .ok r_2 w_17 ∧
        R r_2 w_17) else
      False)
theorem V38_eq (a0 a1 : Value) (w : World) (R : Value → World → Prop) : V38 a0 a1 w R = FnP CC { keep := fun _ => [], lin := fun _ => [] } Tryz.f38 [a0, a1] w R := by kernel_rfl
theorem call38 {a0 a1 : Value} {w : World} {R : Value → World → Prop} (h : V38 a0 a1 w R) : CallP CC 38 [a0, a1] w R :=
  call_of_vc CC.ok _ Tryz.func38 (V38_eq a0 a1 w R ▸ h)
def V92 (w : World) (R : Value → World → Prop) : Prop :=
  ∃ x2, buildV (τ 30) [] = some x2 ∧
  AllocP CC 30 w fun x1 w_1 =>
  StoreP CC 30 x1 x2 w_1 fun w_2 =>
  ∃ x3, some (Value.func (.func 158) #[] #[x1]) = some x3 ∧
  R x3 w_2
theorem V92_eq (w : World) (R : Value → World → Prop) : V92  w R = FnP CC { keep := fun _ => [], lin := fun _ => [] } Tryz.f92 [] w R := by kernel_rfl
theorem call92 {w : World} {R : Value → World → Prop} (h : V92  w R) : CallP CC 92 [] w R :=
  call_of_vc CC.ok _ Tryz.func92 (V92_eq  w R ▸ h)
def V95 (a0 a1 : Value) (w : World) (R : Value → World → Prop) : Prop :=
  AllocP CC 3 w fun x4 w_1 =>
  AllocP CC 4 w_1 fun x5 w_2 =>
  CallP CC 93 [a0, a1] w_2 fun x10 w_3 =>
  ∃ f cap, x10 = .func (.func f) #[] cap ∧ hasB f = true ∧ ∃ Stay N Args, Iter CC f cap.toList w_3 Stay N Args ∧ (∀ k w' vs, Args k w' vs → vs.length = 2) ∧ ∃ (I : Nat → World → Prop) (J : Jmp → World → Prop),
  (∀ w', Vc.Sys w_3.heap.size w_3 w' → I 0 w') ∧ (∀ k w', I k w' → Stay k w') ∧
  (∀ k, k < N → ∀ x11 : Value, ∀ x12 : Value, ∀ w_4, I k w_4 → Args k w_4 [x11, x12] →
    AllocP CC 135 w_4 fun x7 w_8 =>
    StoreP CC 135 x7 x12 w_8 fun w_9 =>
    ∀ w_5, Vc.Sys w_3.heap.size w_9 w_5 →
    ∃ x13, indexAddrV (τ 135) x7 (.int .i64 0) = some x13 ∧
    LoadP CC 30 x13 w_5 fun x14 w_10 =>
    ∃ x15, indexAddrV (τ 135) x7 (.int .i64 1) = some x15 ∧
    LoadP CC 30 x15 w_10 fun x16 w_11 =>
    CallP CC 33 [x14, x16] w_11 fun x17 w_12 =>
    ∃ x18, binV (.int .i64) .gtr x17 (.int .i64 0) = some x18 ∧
    CondP x18 (
      StoreP CC 3 x4 x11 w_12 fun w_13 =>
      StoreP CC 4 x5 (.bool true) w_13 fun w_14 =>
      ∀ w', Vc.Sys w_3.heap.size w_14 w' → J .ret w') (
      ∀ w', Vc.Sys w_3.heap.size w_12 w' → I (k + 1) w')) ∧
  (∀ w_6, I N w_6 →
    StoreP CC 3 x4 (.int .i64 0) w_6 fun w_15 =>
    StoreP CC 4 x5 (.bool false) w_15 fun w_16 =>
    ∀ w_17, Vc.Sys w.heap.size w_16 w_17 →
    ∃ ad r, x4 = .pointer (some ad) ∧ (loadVar 3 ad).run CC.P w_17 = .ok r w_17 ∧
    ∃ ad_1 r_1, x5 = .pointer (some ad_1) ∧ (loadVar 4 ad_1).run CC.P w_17 = .ok r_1 w_17 ∧
    R (.tuple #[r, r_1]) w_17) ∧
  (∀ j w_7, J j w_7 → match j with
    | .ret =>
      ∀ w_18, Vc.Sys w.heap.size w_7 w_18 →
      ∃ ad_2 r_2, x4 = .pointer (some ad_2) ∧ (loadVar 3 ad_2).run CC.P w_18 = .ok r_2 w_18 ∧
      ∃ ad_3 r_3, x5 = .pointer (some ad_3) ∧ (loadVar 4 ad_3).run CC.P w_18 = .ok r_3 w_18 ∧
      R (.tuple #[r_2, r_3]) w_18
    | .exit i =>
      if i = 0 then (
        StoreP CC 3 x4 (.int .i64 0) w_7 fun w_19 =>
        StoreP CC 4 x5 (.bool false) w_19 fun w_20 =>
        ∀ w_21, Vc.Sys w.heap.size w_20 w_21 →
        ∃ ad_4 r_4, x4 = .pointer (some ad_4) ∧ (loadVar 3 ad_4).run CC.P w_21 = .ok r_4 w_21 ∧
        ∃ ad_5 r_5, x5 = .pointer (some ad_5) ∧ (loadVar 4 ad_5).run CC.P w_21 = .ok r_5 w_21 ∧
        R (.tuple #[r_4, r_5]) w_21) else
      False)
theorem V95_eq (a0 a1 : Value) (w : World) (R : Value → World → Prop) : V95 a0 a1 w R = FnP CC { keep := fun _ => [], lin := fun _ => [] } Tryz.f95 [a0, a1] w R := by kernel_rfl
theorem call95 {a0 a1 : Value} {w : World} {R : Value → World → Prop} (h : V95 a0 a1 w R) : CallP CC 95 [a0, a1] w R :=
  call_of_vc CC.ok _ Tryz.func95 (V95_eq a0 a1 w R ▸ h)
end Go.Proofs.YtaajkcngcalgoaaGreat
namespace Go.Vc
open Go
theorem CallP.cy {C : Ctx} {y : Nat} {f : FuncId} {args : List Value} {w : World} {k : Value → World → Prop} (hX : C.X = none) (h : CallP C f args w k) : CallP { C with X := some y } f args w k := by
  refine Calls.mono h ?_
  rintro e w' ⟨v, rfl, hn, hk⟩
  rw [hX] at hn
  exact ⟨v, rfl, ⟨hn.size, fun k o _ ho hr => hn.obj k o (by simp) ho hr⟩, hk⟩
end Go.Vc
namespace Go.Proofs.YtaajkcngcalgoaaGreat
open Go Go.Vc Go.Spx
attribute [local irreducible] Tryz.prog
theorem RepP.md {S : Nat → Prop} {L : Nat} {w w' : World} {v : Value} {n d : Int} (h : RepP L TT w v n d) (hm : Md S w w') : RepP L TT w' v n d := by
  obtain ⟨b1, s1, b2, s2, rfl, h1, h2, hd⟩ := h
  have q9 : ∀ {v : Value} {z : Int}, RepZ L TT w v z → RepZ L TT w' v z := fun h => ((h.mono (q := fun _ e => e = 199) (fun _ _ _ => rfl)).keep hm.kw).tt
  exact ⟨b1, s1, b2, s2, rfl, q9 h1, q9 h2, hd⟩
def Tp (base : Nat) (a b : World) : Prop := Md (fun k => base ≤ k) a b ∧ ∀ g cs, Blk a g 127 cs → cs.length = 4 → ∃ cs', Blk b g 127 cs' ∧ cs'.length = 4
theorem Tp.grow {base : Nat} (a b : World) (h : Grow a b) : Tp base a b := ⟨Md.grow h, fun _ cs hb hl => ⟨cs, hb.grow h, hl⟩⟩
theorem Tp.trans {base : Nat} (a b c : World) (h : Tp base a b) (h' : Tp base b c) : Tp base a c :=
  ⟨h.1.trans h'.1, fun g cs hb hl => by obtain ⟨cs', hb', hl'⟩ := h.2 g cs hb hl; exact h'.2 g cs' hb' hl'⟩
theorem Tp.of {base g : Nat} {a b : World} {cs cs' : List Value} (hm : Upd (· = g) a b) (hb : Blk a g 127 cs) (hg : base ≤ g) (hb' : Blk b g 127 cs') (hl : cs'.length = 4) : Tp base a b := by
  refine ⟨(Md.of hm hb (by decide)).mono fun k hk => by subst hk; exact hg, fun k ds hk hd => ?_⟩
  by_cases e : k = g
  · subst e; exact ⟨cs', hb', hl⟩
  · exact ⟨ds, hk.upd hm e, hd⟩
def PB (base : Nat) (v : Value) (w : World) : Prop := ∃ g cs, v = .pointer (some ⟨g, 0, none⟩) ∧ base ≤ g ∧ Blk w g 127 cs ∧ cs.length = 4
theorem PB.tp {base : Nat} {v : Value} {a b : World} (h : PB base v a) (ht : Tp base a b) : PB base v b := by
  obtain ⟨g, cs, h1, h2, h3, h4⟩ := h
  obtain ⟨cs', h5, h6⟩ := ht.2 g cs h3 h4
  exact ⟨g, cs', h1, h2, h5, h6⟩
def ResV (L : Nat) (v : Value) (w : World) (n d : Int) : Prop := ∃ g, v = .pointer (some ⟨g, 0, none⟩) ∧ ResP L w g n d
theorem c33 {c c' : Bool} {L M : Nat} {w : World} {a b : Value} {x y : Rat} (ha : QR c L w a x) (hb : QR c' M w b y) (h1 : 2 ≤ L) (h2 : L ≤ 268435456) (h3 : 2 ≤ M) (h4 : M ≤ 268435456) :
    CallP CC 33 [a, b] w fun r w' => Grow w w' ∧ r = .int .i64 (vsgn (x - y)) := by
  obtain ⟨b1, s1, b2, s2, ea⟩ := repQ_cells ha.1
  obtain ⟨d1, t1, d2, t2, eb⟩ := repQ_cells hb.1
  apply call33
  subst ea; subst eb
  refine BoxP.mk fun g2 w1 hg1 hlt2 hlt2' hb2 => BoxP.mk fun g3 w2 hg2 hlt3 hlt3' hb3 => ?_
  have hg02 := hg1.trans hg2
  have ha2 := ha.grow hg02
  have hbb2 := hb.grow hg02
  have hb2' := hb2.grow hg2
  have hs1 := hg1.size
  have hs2 := hg2.size
  -- the first number's parts, the second's
  have ex : ∃ n d : Int, 0 < d ∧ x = Rat.divInt n d := ⟨x.num, x.den, by have := x.den_pos; omega, (Rat.num_divInt_den x).symm⟩
  refine ⟨Tp w2.heap.size, fun l w => match l with
      | [] => True
      | [p] => ∃ n1 e1, x = Rat.divInt n1 e1 ∧ ResV L p w n1 e1
      | [p, q] => ∃ n1 e1 n2 e2, x = Rat.divInt n1 e1 ∧ y = Rat.divInt n2 e2 ∧ ResV L p w n1 e1 ∧ ResV M q w n2 e2
      | _ => True, Tp.grow, Tp.trans, fun _ _ => trivial,
    fun v _ => v = .agg #[b1, s1, b2, s2], fun v w => ∃ n d, RepP L TT w v n d ∧ x = Rat.divInt n d, fun v _ => v = .agg #[d1, t1, d2, t2], fun v w => ∃ n d, RepP M TT w v n d ∧ y = Rat.divInt n d,
    PB w2.heap.size, PB w2.heap.size, fun _ _ => True, fun _ _ => True, ?_, ?_, ?_, ?_, ?_, ?_, ?_, ?_, ?_⟩
  · intro w3 ht
    exact LoadP.row (cs := [b1, s1, b2, s2]) ti30 (hb2'.md ht.1 (by omega)) rfl ⟨Grow.refl _, fun _ _ => rfl⟩
  · rintro _ w3 ht rfl
    exact fc (c89 (ha2.md ht.1).1 h1) fun r w' w'' ⟨n, d, hr, hx⟩ hT => ⟨n, d, hr.md hT.1, hx⟩
  · intro _ _ w3 ht
    exact LoadP.row (cs := [d1, t1, d2, t2]) ti30 (hb3.md ht.1 (by omega)) rfl ⟨Grow.refl _, fun _ _ => rfl⟩
  · rintro _ _ _ w3 ht _ _ rfl
    exact fc (c89 (hbb2.md ht.1).1 h3) fun r w' w'' ⟨n, d, hr, hx⟩ hT => ⟨n, d, hr.md hT.1, hx⟩
  · intro _ _ _ _ w3 ht
    exact AllocP.mk ti127 fun g w4 hg4 hl4 _ hb4 => ⟨hg4, fun w5 hT => PB.tp ⟨g, _, rfl, Nat.le_trans ht.1.size hl4, hb4, rfl⟩ hT⟩
  · intro _ _ _ _ _ w3 ht
    exact AllocP.mk ti127 fun g w4 hg4 hl4 _ hb4 => ⟨hg4, fun w5 hT => PB.tp ⟨g, _, rfl, Nat.le_trans ht.1.size hl4, hb4, rfl⟩ hT⟩
  · rintro _ v8 _ _ v5 v6 w3 ht _ hne _ ⟨n, d, h8, hx⟩ _ _ ⟨g5, cs5, rfl, hg5, hb5, hl5⟩ _
    have hP := h8
    obtain ⟨e1, f1, e2, f2, rfl, z1, z2, zd⟩ := h8
    have o1 := agg_one z1
    have o2 := agg_one z2
    refine StoreP.row (cs := [e1, f1, e2, f2]) hb5 ti127 hl5 rfl (by simp [o1, o2]) fun w4 hu hb4 => ?_
    have hT := Tp.of hu hb5 hg5 hb4 rfl
    exact ⟨hT, fun _ _ => trivial, fun w5 hg => ⟨n, d, hx, g5, rfl, ResP.grow (L := L) (w := w4) ⟨_, rfl, hb4, hP.md hT.1⟩ hg⟩⟩
  · rintro _ _ _ v10 v5 v6 _ w3 ht ⟨n1, e1, hx, g5, rfl, hr5⟩ hne _ _ _ ⟨n, d, h10, hy⟩ _ ⟨g6, cs6, rfl, hg6, hb6, hl6⟩ _
    have hP := h10
    obtain ⟨u1, f1, u2, f2, rfl, z1, z2, zd⟩ := h10
    have o1 := agg_one z1
    have o2 := agg_one z2
    refine StoreP.row (cs := [u1, f1, u2, f2]) hb6 ti127 hl6 rfl (by simp [o1, o2]) fun w4 hu hb4 => ?_
    have hT := Tp.of hu hb6 hg6 hb4 rfl
    have hne' : g5 ≠ g6 := by
      intro e; subst e; exact hne rfl
    obtain ⟨cs5, hl5, hb5, hr5'⟩ := hr5
    refine ⟨hT, fun _ _ => trivial, fun w5 hg => ⟨n1, e1, n, d, hx, hy, ⟨g5, rfl, ?_⟩, ⟨g6, rfl, ResP.grow (L := M) (w := w4) ⟨_, rfl, hb4, hP.md hT.1⟩ hg⟩⟩⟩
    exact ResP.grow (L := L) (w := w4) ⟨cs5, hl5, hb5.upd hu hne', hr5'.md hT.1⟩ hg
  · rintro _ _ _ _ v5 v6 _ _ h0 w3 ht hne _ _ _ _ _ _ _ _ ⟨n1, e1, n2, e2, hx, hy, ⟨g5, rfl, cs5, hl5, hb5, hr5⟩, ⟨g6, rfl, cs6, hl6, hb6, hr6⟩⟩
    obtain ⟨i1, j1, i2, j2, e5, z1, z2, zd⟩ := hr5
    obtain ⟨k1, l1, k2, l2, e6, y1, y2, yd⟩ := hr6
    have e5' : cs5 = [i1, j1, i2, j2] := by simpa using e5
    have e6' : cs6 = [k1, l1, k2, l2] := by simpa using e6
    subst e5'; subst e6'
    refine ⟨fun v _ => v = .agg #[i1, j1], fun v _ => v = .agg #[k2, l2], fun v w => RepZ (L + M) TT w v (n1 * e2), fun v _ => v = .agg #[k1, l1], fun v _ => v = .agg #[i2, j2], fun v w => RepZ (L + M) TT w v (n2 * e1), fun v _ => v = .int .i64 (n1 * e2 - n2 * e1).sign, ?_, ?_, ?_, ?_, ?_, ?_, ?_, ?_, ?_, ?_, ?_, ?_⟩
    · exact fun _ _ => ⟨_, rfl⟩
    · exact fun w4 hg => (fld127 (hb5.grow hg)).1 ⟨Grow.refl _, fun _ _ => rfl⟩
    · exact fun _ _ _ => ⟨_, rfl⟩
    · exact fun _ w4 hg => (fld127 (hb6.grow hg)).2 ⟨Grow.refl _, fun _ _ => rfl⟩
    · rintro _ _ w4 hg rfl rfl
      exact fc (c91 (z1.grow hg) (y2.grow hg) (nwTT _) (by omega)) fun r w' w'' hr hT => (hr.rep (L := L + M) (by rw [Int.natAbs_mul]; exact pow_add_lt z1.size y2.size)).grow hT
    · exact fun _ _ _ _ _ => ⟨_, rfl⟩
    · exact fun _ _ _ w4 hg => (fld127 (hb6.grow hg)).1 ⟨Grow.refl _, fun _ _ => rfl⟩
    · exact fun _ _ _ _ _ _ => ⟨_, rfl⟩
    · exact fun _ _ _ _ w4 hg => (fld127 (hb5.grow hg)).2 ⟨Grow.refl _, fun _ _ => rfl⟩
    · rintro _ _ _ _ _ w4 hg _ _ _ rfl rfl
      exact fc (c91 (y1.grow hg) (z2.grow hg) (nwTT _) (by omega)) fun r w' w'' hr hT => (hr.rep (L := L + M) (by rw [Int.natAbs_mul, Nat.mul_comm]; exact pow_add_lt z2.size y1.size)).grow hT
    · rintro _ _ v15 _ _ v20 w4 hg _ _ h15 _ _ h20
      exact fc (c90 h15 h20 (by omega)) fun r w' w'' hr _ => hr
    · rintro _ _ _ _ _ _ _ _ w4 hg _ _ _ _ _ _ rfl
      refine ⟨Md.new hg02 (ht.1.trans (Md.grow hg)) (fun k hk => by omega), ?_⟩
      congr 1
      rw [hx, hy, vsgn, Rat.divInt_sub_divInt _ _ (by omega) (by omega), ← sign_divInt (Int.mul_pos zd yd)]
theorem vsgn_eq {x y : Rat} : vsgn (x - y) = 0 ↔ x = y := by
  unfold vsgn
  rw [Int.sign_eq_zero_iff_zero, Rat.num_eq_zero]
  constructor
  · intro h
    have := congrArg (· + y) h
    simpa [Rat.sub_eq_add_neg, Rat.add_assoc, Rat.neg_add_cancel, Rat.add_zero, Rat.zero_add] using this
  · rintro rfl; rw [Rat.sub_eq_add_neg, Rat.add_neg_cancel]
theorem c47 {c c' : Bool} {L M : Nat} {w : World} {a b : Value} {x y : Rat} (ha : QR c L w a x) (hb : QR c' M w b y) (h1 : 2 ≤ L) (h2 : L ≤ 268435456) (h3 : 2 ≤ M) (h4 : M ≤ 268435456) :
    CallP CC 47 [a, b] w fun r w' => Grow w w' ∧ r = .bool (decide (x = y)) := by
  obtain ⟨cs, rfl, hl, h1c⟩ := ha.cells
  obtain ⟨ds, rfl, hd, h1d⟩ := hb.cells
  apply call47
  refine BoxP.mk fun g2 w1 hg1 hlt2 hlt2' hb2 => BoxP.mk fun g3 w2 hg2 hlt3 hlt3' hb3 => ?_
  have hg02 := hg1.trans hg2
  refine LoadP.row (cs := cs) ti30 (by simpa [Value.cells] using hb2.grow hg2) hl (LoadP.row (cs := ds) ti30 (by simpa [Value.cells] using hb3) hd ((c33 (ha.grow hg02) (hb.grow hg02) h1 h2 h3 h4).mono ?_))
  rintro _ w3 ⟨hg3, rfl⟩
  refine px rfl ⟨hg02.trans hg3, ?_⟩
  have : (vsgn (x - y) == 0) = decide (x = y) := by
    rw [Bool.eq_iff_iff]; simp [vsgn_eq]
  rw [this]
end Go.Proofs.YtaajkcngcalgoaaGreat
namespace Go.Vc
open Go
section
variable {S : Nat → Prop} {a b w : World} {e e' g sz n base : Nat} {v : Value} {cs xs : List Value}
theorem Md.sys (h : Sys n a b) (hn : base ≤ n) : Md (fun k => base ≤ k) a b :=
  ⟨⟨h.os, h.tape, h.output, h.size, fun k o hk ho => h.block k o ho (.inl (by omega))⟩, h.kp⟩
theorem Own.kp {p : Nat → TypeId → Prop} (h : Own a base e sz v n xs) (hk : Kp p a b) (hp : ∀ k, v.ownBlock = some k → p k e) : Own b base e sz v n xs :=
  h.keep fun g cur hv hg => hk.cells g cur e _ (hp g hv) hg
theorem Own.ne (h : Own w base e sz v n xs) (hb : Blk w g e' cs) (he : e' ≠ e) : v.ownBlock ≠ some g := by
  rcases h.2 with ⟨rfl, _⟩ | ⟨g', cap, cur, rfl, _, hgg, _⟩
  · simp [Value.ownBlock]
  · simp only [Value.ownBlock, ne_eq, Option.some.injEq]
    rintro rfl
    unfold Blk at hb
    rw [hgg] at hb
    simp at hb
    exact he hb.2.symm
end
end Go.Vc
namespace Go.Proofs.YtaajkcngcalgoaaGreat
open Go Go.Vc Go.Spx
attribute [local irreducible] Tryz.prog
section
variable {c c' : Bool} {L M K base n : Nat} {w w' w'' : World} {v o s u a b : Value} {x y : Rat} {xs ys row : List Rat} {m : List (List Rat)} {S P Q : Nat → Prop} {p : Nat → TypeId → Prop}
theorem RepQ.kp9 (h : RepQ L TT w v x) (hk : Kp p w w') (hp : ∀ k, p k 199) : RepQ L TT w' v x :=
  ((h.mono (q := fun _ e => e = 199) (fun _ _ _ => rfl)).keep (hk.mono fun k e he => by subst he; exact hp k)).tt
theorem CanQ.kp9 (h : CanQ TT w v x) (hk : Kp p w w') (hp : ∀ k, p k 199) : CanQ TT w' v x :=
  ((h.mono (q := fun _ e => e = 199) (fun _ _ _ => rfl)).keep (hk.mono fun k e he => by subst he; exact hp k)).tt
theorem QR.kp (h : QR c L w v x) (hk : Kp p w w') (hp : ∀ k, p k 199) : QR c L w' v x := ⟨h.1.kp9 hk hp, fun hc => (h.2 hc).kp9 hk hp⟩
theorem QR.sys (h : QR c L w v x) (hs : Vc.Sys n w w') : QR c L w' v x := h.kp (p := fun _ _ => True) hs.kp (fun _ => trivial)
theorem Vec.kp (h : Vec c L P w v xs) (hk : Kp p w w') (hp : ∀ k, p k 199) (hP : ∀ k, P k → p k 30) : Vec c L P w' v xs := by
  obtain ⟨cs, h1, h2⟩ := h
  refine ⟨cs, ⟨h1.1, ?_⟩, ⟨h2.1, fun i x hx => (h2.2 i x hx).kp hk hp⟩⟩
  rcases h1.2 with h | ⟨g, off, cap, hv, hn, hpg, c, fr, hg, hc⟩
  · exact .inl h
  · exact .inr ⟨g, off, cap, hv, hn, hpg, c, fr, hk.cells g c 30 fr (hP g hpg) hg, hc⟩
theorem Vec.sys (h : Vec c L P w v xs) (hs : Vc.Sys n w w') : Vec c L P w' v xs := h.kp (p := fun _ _ => True) hs.kp (fun _ => trivial) fun _ _ => trivial
theorem VecO.kp (h : VecO c L base w v xs) (hk : Kp p w w') (hp : ∀ k, p k 199) (hP : ∀ k, v.ownBlock = some k → p k 30) : VecO c L base w' v xs := by
  obtain ⟨cs, h1, h2⟩ := h
  exact ⟨cs, Vc.Own.kp h1 hk hP, ⟨h2.1, fun i x hx => (h2.2 i x hx).kp hk hp⟩⟩
theorem VecO.sys (h : VecO c L base w v xs) (hs : Vc.Sys n w w') : VecO c L base w' v xs := h.kp (p := fun _ _ => True) hs.kp (fun _ => trivial) fun _ _ => trivial
theorem VecO.ne {g e : Nat} {cs : List Value} (h : VecO c L base w v xs) (hb : Blk w g e cs) (he : e ≠ 30) : v.ownBlock ≠ some g := by
  obtain ⟨ds, h1, h2⟩ := h; exact Vc.Own.ne h1 hb he
theorem Vec.old (h : Vec c L P w v xs) : Vec c L (fun k => k < w.heap.size) w v xs := h.mono fun k hk _ => hk
def ResR (c : Bool) (L : Nat) (w : World) (g : Nat) (x : Rat) : Prop := ∃ cs, cs.length = 4 ∧ Blk w g 30 cs ∧ QR c L w (.agg cs.toArray) x
theorem ResR.grow {g : Nat} (h : ResR c L w g x) (hg : Grow w w') : ResR c L w' g x := by
  obtain ⟨cs, h1, h2, h3⟩ := h; exact ⟨cs, h1, h2.grow hg, h3.grow hg⟩
theorem ResR.sys {g : Nat} (h : ResR c L w g x) (hs : Vc.Sys n w w') : ResR c L w' g x := by
  obtain ⟨cs, h1, h2, h3⟩ := h; exact ⟨cs, h1, h2.sys hs, h3.sys hs⟩
theorem ResR.md {g : Nat} (h : ResR c L w g x) (hm : Md S w w') (hg : ¬ S g) : ResR c L w' g x := by
  obtain ⟨cs, h1, h2, h3⟩ := h; exact ⟨cs, h1, h2.md hm hg, h3.md hm⟩
theorem ResR.of {g : Nat} {cs : List Value} (hb : Blk w g 30 cs) (h : QR c L w (.agg cs.toArray) x) : ResR c L w g x := by
  obtain ⟨ds, he, hl, _⟩ := h.cells
  have : cs = ds := by simpa using he
  subst this
  exact ⟨cs, hl, hb, h⟩
theorem ResR.load {g : Nat} {k : Value → World → Prop} (h : ResR c L w g x) (hk : ∀ v, QR c L w v x → k v w) : LoadP CC 30 (.pointer (some ⟨g, 0, none⟩)) w k := by
  obtain ⟨cs, h1, h2, h3⟩ := h
  exact LoadP.row ti30 h2 h1 (hk _ h3)
theorem ResR.res {g : Nat} (h : ResR c L w g x) : ∃ r, (loadVar 30 ⟨g, 0, none⟩).run CC.P w = .ok r w ∧ QR c L w r x := by
  obtain ⟨cs, h1, h2, h3⟩ := h
  exact ⟨_, res_row ti30 h2 h1, h3⟩
theorem storeR {g : Nat} {old : List Value} {k : World → Prop} (hb : Blk w g 30 old) (ho : old.length = 4) (h : QR c L w v x)
    (hk : ∀ w', Md (· = g) w w' → ResR c L w' g x → k w') : StoreP CC 30 (.pointer (some ⟨g, 0, none⟩)) v w k := by
  obtain ⟨cs, rfl, hl, h1⟩ := h.cells
  refine StoreP.row (cs := cs) hb ti30 ho hl h1 fun w4 hu hb4 => ?_
  have hm := Md.of hu hb (by decide)
  exact hk w4 hm ⟨_, hl, hb4, h.md hm⟩
theorem ResR.store {g : Nat} {k : World → Prop} (hr : ResR c' M w g y) (h : QR c L w v x)
    (hk : ∀ w', Md (· = g) w w' → ResR c L w' g x → k w') : StoreP CC 30 (.pointer (some ⟨g, 0, none⟩)) v w k := by
  obtain ⟨cs, h1, h2, h3⟩ := hr
  exact storeR h2 h1 h hk
theorem BoxP.q {k : Value → World → Prop} (h : QR c L w v x) (hk : ∀ g w', Grow w w' → w.heap.size ≤ g → g < w'.heap.size → ResR c L w' g x → k (.pointer (some ⟨g, 0, none⟩)) w') : BoxP CC 30 v w k := by
  obtain ⟨cs, rfl, hl, h1⟩ := h.cells
  refine BoxP.mk fun g w1 hg hlt hlt' hb => hk g w1 hg hlt hlt' ?_
  exact ResR.of (cs := cs) (by simpa [Value.cells] using hb) (h.grow hg)
theorem qat_get {i : Nat} (h : i < xs.length) : xs[i]? = some (qat xs i) := by
  unfold qat; rw [List.getD_eq_getElem?_getD, List.getElem?_eq_getElem h]; rfl
theorem qat_none {i : Nat} (h : xs.length ≤ i) : qat xs i = 0 := by
  unfold qat; rw [List.getD_eq_getElem?_getD, List.getElem?_eq_none h]; rfl
theorem c88 {i : Nat} (h : Vec c L P w a xs) (hL : 1 ≤ L) :
    CallP CC 88 [a, .int .i64 (i : Nat)] w fun r w' => Grow w w' ∧ QR c L w' r (qat xs i) := by
  apply call88
  refine AllocP.mk ti30 fun g w1 hg1 hlt hlt' hb => px h.len (px rfl (cD (fun hi => ?_) (fun hi => ?_)))
  · have hi' : i < xs.length := by omega
    obtain ⟨ad, had⟩ := h.idx (k := .i64) hi'
    refine px had ((h.grow hg1).load had (qat_get hi') fun r hr => storeR hb rfl hr fun w2 hm hres => ?_)
    obtain ⟨v, hv, hq⟩ := hres.res
    exact ⟨_, _, rfl, hv, Md.new hg1 hm (fun k hk => by omega), hq⟩
  · rw [qat_none (by omega)]
    refine px rfl (storeR hb rfl (QR.zero (c := c) hL) fun w2 hm hres => ?_)
    obtain ⟨v, hv, hq⟩ := hres.res
    exact ⟨_, _, rfl, hv, Md.new hg1 hm (fun k hk => by omega), hq⟩
def PairR (c : Bool) (L : Nat) (c' : Bool) (M : Nat) (w : World) (v : Value) (x y : Rat) : Prop :=
  ∃ cs ds : List Value, (cs.length = 4 ∧ ds.length = 4) ∧ v = .agg (cs ++ ds).toArray ∧ QR c L w (.agg cs.toArray) x ∧ QR c' M w (.agg ds.toArray) y
def VecsAt (c : Bool) (L : Nat) (c' : Bool) (M : Nat) (P : Nat → Prop) (g1 g2 : Nat) (a b : Value) (xs ys : List Rat) (w : World) : Prop :=
  Blk w g1 23 [a] ∧ Blk w g2 23 [b] ∧ Vec c L P w a xs ∧ Vec c' M P w b ys
theorem VecsAt.grow {g1 g2 : Nat} (h : VecsAt c L c' M P g1 g2 a b xs ys w) (hg : Grow w w') : VecsAt c L c' M P g1 g2 a b xs ys w' :=
  ⟨h.1.grow hg, h.2.1.grow hg, h.2.2.1.grow hg, h.2.2.2.grow hg⟩
theorem VecsAt.sys {g1 g2 : Nat} (h : VecsAt c L c' M P g1 g2 a b xs ys w) (hg : Vc.Sys n w w') : VecsAt c L c' M P g1 g2 a b xs ys w' :=
  ⟨h.1.sys hg, h.2.1.sys hg, h.2.2.1.sys hg, h.2.2.2.sys hg⟩
theorem VecsAt.md {g1 g2 : Nat} (h : VecsAt c L c' M P g1 g2 a b xs ys w) (hm : Md S w w') (h1 : ¬ S g1) (h2 : ¬ S g2) (hP : ∀ k, P k → ¬ S k) : VecsAt c L c' M P g1 g2 a b xs ys w' :=
  ⟨h.1.md hm h1, h.2.1.md hm h2, h.2.2.1.md hm hP, h.2.2.2.md hm hP⟩
theorem build135 {cs ds : List Value} (hc : cs.length = 4) (hd : ds.length = 4) : buildV (tyOf tyTab 135) [(0, .agg cs.toArray), (1, .agg ds.toArray)] = some (.agg (cs ++ ds).toArray) := by
  match cs, hc, ds, hd with
  | [_, _, _, _], _, [_, _, _, _], _ => rfl
theorem iter159 {w0 : World} {g1 g2 : Nat} (hL : 1 ≤ L) (hM : 1 ≤ M) :
    Iter CC 159 [.pointer (some ⟨g1, 0, none⟩), .pointer (some ⟨g2, 0, none⟩)] w0 (fun _ => VecsAt c L c' M P g1 g2 a b xs ys) (max xs.length ys.length)
      (fun k w vs => ∃ v, vs = [.int .i64 (k : Nat), v] ∧ PairR c L c' M w v (qat xs k) (qat ys k)) := by
  intro y J Jx hy hS hJ hJx hyield w hw
  have hc : CallP (CY y) 159 [.func (.yield y) #[] #[], .pointer (some ⟨g1, 0, none⟩), .pointer (some ⟨g2, 0, none⟩)] w fun _ w' => J (max xs.length ys.length) w' ∨ Jx w' := by
    apply call159
    obtain ⟨hb1, hb2, ha, hb⟩ := hS 0 w hw
    refine LoadP.fld hb1 ti23 rfl (px ha.len (LoadP.fld hb2 ti23 rfl (px hb.len ?_)))
    have hla := ha.lim
    have hlb := hb.lim
    refine px (v := .int .i64 ((max xs.length ys.length : Nat) : Int)) ?_ ?_
    · show some (Value.int .i64 (if ((ys.length : Nat) : Int) > (xs.length : Nat) then ((ys.length : Nat) : Int) else (xs.length : Nat))) = _
      congr 2
      split <;> omega
    refine ⟨fun v w' => ∃ k : Nat, v = .int .i64 k ∧ k ≤ max xs.length ys.length ∧ J k w', fun v _ => max xs.length ys.length - (vint v).toNat, ⟨0, rfl, Nat.zero_le _, hw⟩, ?_⟩
    rintro v - w3 ⟨k, rfl, hk, hJk⟩
    obtain ⟨hb1, hb2, ha, hb⟩ := hS k w3 hJk
    refine px rfl (cD (fun hlt => ?_) (fun hge => ?_))
    · have hkN : k < max xs.length ys.length := by omega
      refine ⟨Ph, fun l w => match l with | [v] => (v = .bool true ∧ J (k + 1) w) ∨ (v = .bool false ∧ Jx w) | _ => True, Ph.grow, Ph.trans, fun _ _ => trivial,
        fun v _ => v = a, fun v s => s.1 = 0 → QR c L s.2 v (qat xs k), fun v _ => v = b, fun v s => s.1 = 0 → QR c' M s.2 v (qat ys k), fun v _ => v = .bool true ∨ v = .bool false, ?_, ?_, ?_, ?_, ?_, ?_, ?_, ?_⟩
      · intro n w4 hn ht
        obtain ⟨rfl, hg⟩ := ht.z hn
        exact LoadP.fld (hb1.grow hg) ti23 rfl ⟨Grow.refl _, fun _ _ _ => rfl⟩
      · rintro _ n w4 hn ht rfl
        obtain ⟨rfl, hg⟩ := ht.z hn
        refine CallP.cy rfl ((c88 (ha.grow hg) hL).mono ?_)
        rintro r w5 ⟨hg5, hr⟩
        exact ⟨hg5, fun m w6 ht6 hm => hr.grow (ht6.z (Nat.le_of_eq hm)).2⟩
      · intro _ _ n w4 hn ht
        obtain ⟨rfl, hg⟩ := ht.z hn
        exact LoadP.fld (hb2.grow hg) ti23 rfl ⟨Grow.refl _, fun _ _ _ => rfl⟩
      · rintro _ _ _ n w4 hn ht _ _ rfl
        obtain ⟨rfl, hg⟩ := ht.z hn
        refine CallP.cy rfl ((c88 (hb.grow hg) hM).mono ?_)
        rintro r w5 ⟨hg5, hr⟩
        exact ⟨hg5, fun m w6 ht6 hm => hr.grow (ht6.z (Nat.le_of_eq hm)).2⟩
      · intro _ v17 _ v20 n w4 hn ht _ h17 _ h20
        obtain ⟨rfl, hg⟩ := ht.z hn
        obtain ⟨cs, rfl, hc, _⟩ := (h17 rfl).cells
        obtain ⟨ds, rfl, hd, _⟩ := (h20 rfl).cells
        exact ⟨_, build135 hc hd⟩
      · rintro _ v17 _ v20 n w4 hn ht rfl _ _ h17 _ h20
        have hg := (ht.z (Nat.le_refl _)).2
        have h17 := h17 rfl
        have h20 := h20 rfl
        obtain ⟨cs, rfl, hc, _⟩ := h17.cells
        obtain ⟨ds, rfl, hd, _⟩ := h20.cells
        rw [build135 hc hd]
        have h := hyield k w4 [.int .i64 (k : Nat), .agg (cs ++ ds).toArray] hkN (hJ k _ _ hJk hg) ⟨_, rfl, cs, ds, ⟨hc, hd⟩, rfl, h17, h20⟩
        obtain ⟨f, tmps, assign, body, he, hr⟩ := h
        refine ⟨f, tmps, assign, body, he, hr.mono ?_⟩
        rintro e w5 ⟨v, rfl, hn, hv⟩
        refine ⟨v, rfl, hn, Ph.next, fun _ _ _ => ?_, fun w6 hg6 => ?_⟩
        · rcases hv with ⟨rfl, _⟩ | ⟨rfl, _⟩
          · exact .inl rfl
          · exact .inr rfl
        · rcases hv with ⟨rfl, hv⟩ | ⟨rfl, hv⟩
          · exact .inl ⟨rfl, hJ _ _ _ hv hg6⟩
          · exact .inr ⟨rfl, hJx _ _ hv hg6⟩
      · rintro _ _ _ _ v22 n w4 hn ht _ _ _ _ h22
        rcases h22 with rfl | rfl <;> exact ⟨_, rfl⟩
      · rintro _ _ _ _ v22 h1 w4 ht _ _ _ _ _ hL
        rcases hL with ⟨rfl, hv⟩ | ⟨rfl, hv⟩
        · refine cF rfl (pi rfl (by omega) ⟨⟨k + 1, by simp, by omega, hv⟩, ?_⟩)
          simp only [vint_int]; omega
        · exact cT rfl (.inr hv)
    · have : k = max xs.length ys.length := by omega
      subst this
      exact .inl hJk
  refine Calls.mono hc ?_
  rintro e w' ⟨v, rfl, hn, hv⟩
  exact ⟨⟨v, rfl⟩, hv⟩
theorem c93 (ha : Vec c L P w a xs) (hb : Vec c' M P w b ys) :
    CallP CC 93 [a, b] w fun r w' => Grow w w' ∧ ∃ g1 g2, w.heap.size ≤ g1 ∧ w.heap.size ≤ g2 ∧ g1 < w'.heap.size ∧ g2 < w'.heap.size ∧ r = .func (.func 159) #[] #[.pointer (some ⟨g1, 0, none⟩), .pointer (some ⟨g2, 0, none⟩)] ∧ VecsAt c L c' M P g1 g2 a b xs ys w' := by
  apply call93
  refine BoxP.mk fun g1 w1 hg1 hlt1 hlt1' hb1 => BoxP.mk fun g2 w2 hg2 hlt2 hlt2' hb2 => px rfl ?_
  obtain ⟨a', ca, rfl, _⟩ := ha.shape
  obtain ⟨b', cb, rfl, _⟩ := hb.shape
  exact ⟨hg1.trans hg2, g1, g2, hlt1, Nat.le_trans hg1.size hlt2, Nat.lt_of_lt_of_le hlt1' hg2.size, hlt2', rfl, hb1.grow hg2, hb2, (ha.grow hg1).grow hg2, (hb.grow hg1).grow hg2⟩
def ArrR (c : Bool) (L : Nat) (c' : Bool) (M : Nat) (w : World) (g : Nat) (x y : Rat) : Prop := ∃ cs, cs.length = 8 ∧ Blk w g 135 cs ∧ QR c L w (.agg (cut cs 0 4).toArray) x ∧ QR c' M w (.agg (cut cs 4 4).toArray) y
theorem ArrR.grow {g : Nat} (h : ArrR c L c' M w g x y) (hg : Grow w w') : ArrR c L c' M w' g x y := by
  obtain ⟨cs, h1, h2, h3, h4⟩ := h; exact ⟨cs, h1, h2.grow hg, h3.grow hg, h4.grow hg⟩
theorem ArrR.sys {g : Nat} (h : ArrR c L c' M w g x y) (hg : Vc.Sys n w w') : ArrR c L c' M w' g x y := by
  obtain ⟨cs, h1, h2, h3, h4⟩ := h; exact ⟨cs, h1, h2.sys hg, h3.sys hg, h4.sys hg⟩
theorem ArrR.idx1 {g : Nat} : indexAddrV (tyOf tyTab 135) (.pointer (some ⟨g, 0, none⟩)) (.int .i64 1) = some (.pointer (some ⟨g, 4, none⟩)) := rfl
theorem ArrR.load0 {g : Nat} {k : Value → World → Prop} (h : ArrR c L c' M w g x y) (hk : ∀ r, QR c L w r x → k r w) : LoadP CC 30 (gd (indexAddrV (tyOf tyTab 135) (.pointer (some ⟨g, 0, none⟩)) (.int .i64 0))) w k := by
  obtain ⟨cs, h1, h2, h3, h4⟩ := h
  exact LoadP.flds (o := 0) (sz := 4) h2 ti30 (by omega) (hk _ h3)
theorem ArrR.load1 {g : Nat} {k : Value → World → Prop} (h : ArrR c L c' M w g x y) (hk : ∀ r, QR c' M w r y → k r w) : LoadP CC 30 (gd (indexAddrV (tyOf tyTab 135) (.pointer (some ⟨g, 0, none⟩)) (.int .i64 1))) w k := by
  obtain ⟨cs, h1, h2, h3, h4⟩ := h
  exact LoadP.flds (o := 4) (sz := 4) h2 ti30 (by omega) (hk _ h4)
theorem ArrR.begin {k : Value → World → Prop} (hv : PairR c L c' M w v x y) (hk : ∀ g w', Grow w w' → w.heap.size ≤ g → ArrR c L c' M w' g x y → k (.pointer (some ⟨g, 0, none⟩)) w') :
    AllocP CC 135 w fun x8 w1 => StoreP CC 135 x8 v w1 fun w2 => k x8 w2 := by
  refine AllocP.mk ti135 fun g w1 hg1 hlt hlt' hb => ?_
  obtain ⟨cs, ds, ⟨hc, hd⟩, rfl, h1, h2⟩ := hv
  obtain ⟨cs', e1, _, o1⟩ := h1.cells
  obtain ⟨ds', e2, _, o2⟩ := h2.cells
  have e1' : cs = cs' := by simpa using e1
  have e2' : ds = ds' := by simpa using e2
  subst e1'; subst e2'
  refine StoreP.row (cs := cs ++ ds) hb ti135 rfl (by simp [hc, hd]) (fun u hu => (List.mem_append.1 hu).elim (o1 u) (o2 u)) fun w4 hu hb4 => ?_
  have hm := Md.of hu hb (by decide)
  have hg := Md.new hg1 hm (fun k hk => by omega)
  refine hk g w4 hg hlt ⟨_, by simp [hc, hd], hb4, ?_, ?_⟩
  · rw [cut_append_left (by omega)]
    have : cut cs 0 4 = cs := by unfold cut; simp [List.take_of_length_le, hc]
    rw [this]; exact h1.grow hg
  · have := cut_append_right (a := cs) (b := ds) hd
    rw [hc] at this
    rw [this]; exact h2.grow hg
end
end Go.Proofs.YtaajkcngcalgoaaGreat
namespace Go.Proofs.YtaajkcngcalgoaaGreat
open Go Go.Vc Go.Spx
attribute [local irreducible] Tryz.prog
section
variable {c c' : Bool} {L M K base n : Nat} {w w' w'' : World} {v o s u a b : Value} {x y : Rat} {xs ys row : List Rat} {S P Q : Nat → Prop}
theorem with_step {f : Rat → Rat → Rat} {k : Nat} (hk : k < max xs.length ys.length) :
    (vwith f xs ys).take k ++ [f (qat xs k) (qat ys k)] = (vwith f xs ys).take (k + 1) := by
  have : (vwith f xs ys)[k]? = some (f (qat xs k) (qat ys k)) := by
    unfold vwith
    rw [List.getElem?_map, List.getElem?_range hk]; rfl
  rw [List.take_add_one, this]; rfl
theorem vwith_length {f : Rat → Rat → Rat} : (vwith f xs ys).length = max xs.length ys.length := by simp [vwith]
theorem c75 {f : Rat → Rat → Rat} {fv : Value} (ha : Vec c L P w a xs) (hb : Vec c' M P w b ys) (hL : 1 ≤ L) (hM : 1 ≤ M) (h1 : fv.oneCell' = true) (hn : max xs.length ys.length < 1099511627776)
    (hof : ∀ w', Md (fun k => w.heap.size ≤ k) w w' → ∀ a b x y, QR c L w' a x → QR c' M w' b y → callV CC fv [a, b] w' fun r w'' => Grow w' w'' ∧ QR true K w'' r (f x y)) :
    CallP CC 75 [a, b, fv] w fun r w' => Grow w w' ∧ VecO true K w.heap.size w' r (vwith f xs ys) := by
  have hfc : fv.cells.toList = [fv] := vcells_one h1
  apply call75
  refine BoxP.mk fun g5 w1 hg1 hlt5 hlt5' hb5 => AllocP.mk ti23 fun g6 w2 hg2 hlt6 hlt6' hb6 => ?_
  rw [hfc] at hb5
  have hg02 := hg1.trans hg2
  have hs1 := hg1.size
  have hs2 := hg2.size
  refine (c93 (ha.old.grow hg02) (hb.old.grow hg02)).mono ?_
  rintro _ w3 ⟨hg3, g1, g2, hl1, hl2, hl1', hl2', rfl, hP⟩
  have hg03 := hg02.trans hg3
  have hs3 := hg3.size
  have hb5' := (hb5.grow hg2).grow hg3
  have hb6' := hb6.grow hg3
  -- what holds ahead of round k
  refine ⟨159, _, rfl, rfl, _, _, _, iter159 (c := c) (L := L) (c' := c') (M := M) (P := fun k => k < w.heap.size) (a := a) (b := b) (xs := xs) (ys := ys) hL hM, fun k w' vs ⟨v, h, _⟩ => by rw [h]; rfl,
    fun k w' => Md (fun k => w.heap.size ≤ k) w3 w' ∧ VecsAt c L c' M (fun k => k < w.heap.size) g1 g2 a b xs ys w' ∧ Blk w' g5 60 [fv] ∧ ∃ o, Blk w' g6 23 [o] ∧ VecO true K w.heap.size w' o ((vwith f xs ys).take k),
    fun _ _ => False, ?_, fun _ _ h => h.2.1, ?_, ?_, fun _ _ h => h.elim⟩
  · intro w' hs
    exact ⟨Md.sys hs hg03.size, hP.sys hs, hb5'.sys hs, _, hb6'.sys hs, VecO.nil⟩
  · rintro k hk x12 x13 w4 ⟨hm4, hP4, hb54, o, hb64, ho4⟩ ⟨v, hv, hp⟩
    simp only [List.cons.injEq, and_true] at hv
    obtain ⟨rfl, rfl⟩ := hv
    refine ArrR.begin hp fun g8 w5 hg5 hl8 har w6 hs6 => ?_
    have hs4 := hm4.size
    have hs5 := hg5.size
    have hs6' := hs6.size
    have har6 := har.sys hs6
    have hP6 := (hP4.grow hg5).sys hs6
    have hb56 := (hb54.grow hg5).sys hs6
    have hb66 := (hb64.grow hg5).sys hs6
    have ho6 := (ho4.grow hg5).sys hs6
    have hm6 : Md (fun k => w.heap.size ≤ k) w3 w6 := (hm4.trans (Md.grow hg5)).trans (Md.sys hs6 hg03.size)
    have hno6 : o.ownBlock ≠ some g6 := ho6.ne hb66 (by decide)
    have hn5 : o.ownBlock ≠ some g5 := ho6.ne hb56 (by decide)
    have hn1 : o.ownBlock ≠ some g1 := ho6.ne hP6.1 (by decide)
    have hn2 : o.ownBlock ≠ some g2 := ho6.ne hP6.2.1 (by decide)
    have hbk := ho6.block
    have hS : ∀ k, (k = g6 ∨ o.ownBlock = some k) → w.heap.size ≤ k ∧ k < w6.heap.size := by
      rintro k (rfl | h)
      · exact ⟨by omega, hb66.lt⟩
      · exact hbk k h
    refine ⟨PhS (fun k => k = g6 ∨ o.ownBlock = some k), fun l w' => match l with
        | [] => True
        | [v] => Md (fun k => k = g6 ∨ o.ownBlock = some k) w6 w' ∧ Blk w' g6 23 [o] ∧ VecO true K w.heap.size w' v ((vwith f xs ys).take (k + 1)) ∧ ∀ g, v.ownBlock = some g → g = g6 → False
        | _ => Md (fun k => k = g6 ∨ o.ownBlock = some k) w6 w' ∧ ∃ v, Blk w' g6 23 [v] ∧ VecO true K w.heap.size w' v ((vwith f xs ys).take (k + 1)),
      PhS.grow _, PhS.trans _, fun _ _ => trivial, fun v _ => v = o, fun v _ => v = fv, fun v s => QR c L s.2 v (qat xs k), fun v s => QR c' M s.2 v (qat ys k), fun v s => QR true K s.2 v (f (qat xs k) (qat ys k)),
      fun v s => ∃ u, QR true K s.2 u (f (qat xs k) (qat ys k)) ∧ One w6.heap.size 30 s.2 v u.cells.toList, fun _ _ => True, fun _ _ => True, ?_, ?_, ?_, ?_, ?_, ?_, ?_, ?_, ?_, ?_, ?_⟩
    · intro n w7 hn ht
      obtain ⟨rfl, hg⟩ := ht.z hn
      exact LoadP.fld (hb66.grow hg) ti23 rfl ⟨Grow.refl _, fun _ _ _ => rfl⟩
    · intro _ n w7 hn ht
      obtain ⟨rfl, hg⟩ := ht.z hn
      exact LoadP.fld (hb56.grow hg) ti60 rfl ⟨Grow.refl _, fun _ _ _ => rfl⟩
    · exact fun _ _ _ _ _ _ => ⟨_, rfl⟩
    · intro _ _ n w7 hn ht
      obtain ⟨rfl, hg⟩ := ht.z hn
      exact (har6.grow hg).load0 fun r hr => ⟨Grow.refl _, fun m w8 ht => hr.md ht.md⟩
    · exact fun _ _ _ _ _ _ _ => ⟨_, rfl⟩
    · intro _ _ _ n w7 hn ht
      obtain ⟨rfl, hg⟩ := ht.z hn
      exact (har6.grow hg).load1 fun r hr => ⟨Grow.refl _, fun m w8 ht => hr.md ht.md⟩
    · rintro _ _ v17 v19 n w7 hn ht rfl h17 h19
      obtain ⟨rfl, hg⟩ := ht.z hn
      have hmw : Md (fun k => w.heap.size ≤ k) w w7 := (Md.grow hg03).trans (hm6.trans (Md.grow hg))
      have hc := hof w7 hmw v17 v19 _ _ h17 h19
      exact callV_mono hc fun r w8 ⟨hg8, hr⟩ => ⟨hg8, fun m w9 ht9 => hr.md ht9.md⟩
    · rintro _ _ _ _ v20 n w7 hn ht _ _ _ h20
      obtain ⟨rfl, hg⟩ := ht.z hn
      exact litQ h20 fun s w8 hg8 h1 => ⟨hg8, fun m w9 ht9 => ⟨v20, (h20.grow hg8).md ht9.md, (h1.md ht9.md fun k hk => by have := (hS k hk).2; have := hg.size; omega) |> fun ⟨g, a, b, c⟩ => ⟨g, by have := hg.size; omega, b, c⟩⟩⟩
    · rintro v14 _ _ _ _ v21 n w7 hn ht rfl _ e14 _ _ _ _ ⟨u, hu, h1⟩
      have hg := ht.z0
      rw [e14]
      refine appQ1 (ho6.grow hg) h1 hu (by have := hg.size; omega) (by simp [vwith_length]; omega) fun o' w8 ho' hm hf => ?_
      have hm' : Md (fun k => k = g6 ∨ o.ownBlock = some k) w7 w8 := hm.mono fun k hk => .inr hk
      refine ⟨PhS.next hm', fun _ _ _ => trivial, fun w9 hg9 => ⟨((Md.grow hg).trans hm').trans (Md.grow hg9), ((hb66.grow hg).md hm hno6).grow hg9, ?_, ?_⟩⟩
      · rw [with_step hk] at ho'; exact ho'.grow hg9
      · rintro g hg' rfl
        rcases hf g hg' with h | h
        · exact hno6 h
        · have := hb66.lt; have := hg.size; omega
    · rintro _ _ _ _ _ _ v22 n w7 hn ht rfl ⟨hm7, hb67, ho7, hne⟩ _ _ _ _ _ _ _
      refine StoreP.var ti23 hb67 ho7.one fun w8 hu hb68 => ?_
      have hm8 := Md.of hu hb67 (by decide)
      have hm' : Md (fun k => k = g6 ∨ o.ownBlock = some k) w7 w8 := hm8.mono fun k hk => .inl hk
      exact ⟨PhS.next hm', fun _ _ _ => trivial, fun w9 hg9 => ⟨(hm7.trans hm').trans (Md.grow hg9), v22, hb68.grow hg9, (ho7.md hm8 fun k hk e => hne k hk e).grow hg9⟩⟩
    · rintro _ _ _ _ _ _ _ _ _ w7 ht _ _ _ _ _ _ _ _ ⟨hm7, v, hb67, ho7⟩ w8 hs8
      have hm68 : Md (fun k => w.heap.size ≤ k) w6 w8 := (hm7.mono fun k hk => (hS k hk).1).trans (Md.sys hs8 hg03.size)
      have hmS := hm7
      refine ⟨hm6.trans hm68, (hP6.md hm7 ?_ ?_ ?_).sys hs8, (hb56.md hm7 ?_).sys hs8, v, hb67.sys hs8, ho7.sys hs8⟩
      · rintro (rfl | h)
        · omega
        · exact hn1 h
      · rintro (rfl | h)
        · omega
        · exact hn2 h
      · rintro k hk h
        have := (hS k h).1; omega
      · rintro (rfl | h)
        · omega
        · exact hn5 h
  · rintro w7 ⟨hm7, _, _, o, hb67, ho7⟩
    refine LoadP.fld hb67 ti23 rfl (StoreP.var ti23 hb67 ho7.one fun w8 hu hb68 w9 hs9 => ?_)
    have hm8 := Md.of hu hb67 (by decide)
    have hne := ho7.ne hb67 (by decide)
    refine ⟨_, _, rfl, res_one ti23 (hb68.sys hs9), Md.new hg03 ((hm7.trans (hm8.mono fun k hk => by omega)).trans (Md.sys hs9 (Nat.le_refl _))) (fun _ h => h), ?_⟩
    have := (ho7.md hm8 fun k hk e => hne (by rw [← e]; exact hk)).sys hs9
    rwa [List.take_of_length_le (by rw [vwith_length]; exact Nat.le_refl _)] at this
end
end Go.Proofs.YtaajkcngcalgoaaGreat
namespace Go.Proofs.YtaajkcngcalgoaaGreat
open Go Go.Vc Go.Spx
attribute [local irreducible] Tryz.prog
section
variable {c c' d : Bool} {L M K base n : Nat} {w w' w'' : World} {v o s u a b q : Value} {x y z : Rat} {xs ys row : List Rat} {S P Q : Nat → Prop}
theorem VecO.down {base' : Nat} (h : VecO c L base w v xs) (hb : base' ≤ base) : VecO c L base' w v xs := by
  obtain ⟨cs, h1, h2⟩ := h; exact ⟨cs, Vc.Own.base h1 hb, h2⟩
theorem c76 {g : Nat} (hk : ResR d K w g z) (ha : QR c L w a x) (hb : QR c' M w b y) (h1 : 2 ≤ L) (h2 : 2 ≤ M) (h3 : 2 ≤ K) (h4 : K + L + M < 268435456) :
    CallP CC 76 [a, b, .pointer (some ⟨g, 0, none⟩)] w fun r w' => Grow w w' ∧ QR true (K + L + M + 1) w' r (z * x + y) := by
  apply call76
  refine BoxP.q ha fun g3 w1 hg1 hlt3 hlt3' hb3 => BoxP.q (hb.grow hg1) fun g4 w2 hg2 hlt4 hlt4' hb4 => AllocP.mk ti30 fun g5 w3 hg3 hlt5 hlt5' hb5 => ?_
  have hg03 := (hg1.trans hg2).trans hg3
  have hs1 := hg1.size
  have hs2 := hg2.size
  have hk3 := hk.grow hg03
  have hb33 := (hb3.grow hg2).grow hg3
  have hb43 := hb4.grow hg3
  refine ⟨PhS (· = g5), fun l w' => match l with | [] => True | _ => Md (· = g5) w3 w' ∧ ResR true (K + L + M + 1) w' g5 (z * x + y), PhS.grow _, PhS.trans _, fun _ _ => trivial,
    fun v s => QR d K s.2 v z, fun v s => QR c L s.2 v x, fun v s => QR true (K + L) s.2 v (z * x), fun v s => QR c' M s.2 v y, fun v s => QR true (K + L + M + 1) s.2 v (z * x + y), fun _ _ => True, ?_, ?_, ?_, ?_, ?_, ?_, ?_⟩
  · intro n w4 hn ht
    obtain ⟨rfl, hg⟩ := ht.z hn
    exact (hk3.grow hg).load fun r hr => ⟨Grow.refl _, fun m w5 ht => hr.md ht.md⟩
  · intro _ n w4 hn ht
    obtain ⟨rfl, hg⟩ := ht.z hn
    exact (hb33.grow hg).load fun r hr => ⟨Grow.refl _, fun m w5 ht => hr.md ht.md⟩
  · intro _ _ n w4 hn ht h6 h7
    exact fg (q44 h6 h7 h3 (by omega) h1 (by omega)) fun r w5 m w6 hr ht => hr.md ht.md
  · intro _ _ _ n w4 hn ht
    obtain ⟨rfl, hg⟩ := ht.z hn
    exact (hb43.grow hg).load fun r hr => ⟨Grow.refl _, fun m w5 ht => hr.md ht.md⟩
  · intro _ _ _ _ n w4 hn ht _ _ h8 h9
    exact fg (q41 h8 h9 (by omega) (by omega) h2 (by omega)) fun r w5 m w6 hr ht => hr.md ht.md
  · rintro _ _ _ _ v10 n w4 hn ht rfl _ _ _ _ _ h10
    have hg := ht.z0
    exact storeR (hb5.grow hg) rfl h10 fun w5 hm hr => ⟨PhS.next hm, fun _ _ _ => trivial, fun w6 hg6 => ⟨((Md.grow hg).trans hm).trans (Md.grow hg6), hr.grow hg6⟩⟩
  · rintro _ _ _ _ _ _ _ w4 ht _ _ _ _ _ _ ⟨hm, hr⟩
    obtain ⟨r, hr1, hr2⟩ := hr.res
    exact ⟨_, _, rfl, hr1, Md.new hg03 hm (fun k hk => by omega), hr2⟩
theorem c24 (hk : QR d K w q z) (ha : Vec c L P w a xs) (hb : Vec c' M P w b ys) (h1 : 2 ≤ L) (h2 : 2 ≤ M) (h3 : 2 ≤ K) (h4 : K + L + M < 268435456) (hn : max xs.length ys.length < 1099511627776) :
    CallP CC 24 [q, a, b] w fun r w' => Grow w w' ∧ VecO true (K + L + M + 1) w.heap.size w' r (addScaled z xs ys) := by
  apply call24
  refine BoxP.q hk fun g w1 hg1 hlt hlt' hb1 => px rfl ?_
  refine (c75 (ha.grow hg1) (hb.grow hg1) (f := fun x y => z * x + y) (K := K + L + M + 1) (by omega) (by omega) rfl hn ?_).mono ?_
  · intro w2 hm a b x y h5 h6
    exact callV.func rfl (c76 (hb1.md hm (by omega)) h5 h6 h1 h2 h3 h4)
  · rintro r w2 ⟨hg2, hr⟩
    exact ⟨hg1.trans hg2, hr.down hg1.size⟩
theorem c104 (hk : QR d K w q z) (ha : Vec c L P w a xs) (h1 : 2 ≤ L) (h3 : 2 ≤ K) (h4 : K + L + 2 < 268435456) (hn : xs.length < 1099511627776) :
    CallP CC 104 [q, a] w fun r w' => Grow w w' ∧ VecO true (K + L + 3) w.heap.size w' r (vscale z xs) := by
  apply call104
  refine BoxP.q hk fun g w1 hg1 hlt hlt' hb1 => hb1.load fun r hr => ?_
  refine (c24 hr (ha.grow hg1) (Vec.nil (c := true) (L := 2)) h1 (by omega) h3 h4 (by simpa using hn)).mono ?_
  rintro r w2 ⟨hg2, hr⟩
  exact ⟨hg1.trans hg2, hr.down hg1.size⟩
theorem natmin {m : Int} : (match maxV (.int .i64 m) (.int .i64 0) with | some v => minV v (.int .i64 65536) | none => none) = some (.int .i64 ((min m.toNat 65536 : Nat) : Int)) := by
  simp only [maxV, minV]
  congr 2
  split <;> split <;> omega
theorem c31 {m : Int} (ha : Vec c L P w a xs) (h1 : 2 ≤ L) (h2 : L ≤ 268435456) :
    CallP CC 31 [a, .int .i64 m] w fun r w' => Grow w w' ∧ VecO true L w.heap.size w' r (resize xs (min m.toNat 65536)) := by
  apply call31
  refine px rfl (px (v := .int .i64 ((min m.toNat 65536 : Nat) : Int)) (by have := natmin (m := m); simpa [maxV] using this) ?_)
  obtain ⟨N, hN⟩ : ∃ N, N = min m.toNat 65536 := ⟨_, rfl⟩
  rw [← hN]
  have hN2 : N ≤ 65536 := by omega
  refine ⟨fun o k w' => ∃ i : Nat, k = .int .i64 i ∧ i ≤ N ∧ Grow w w' ∧ VecO true L w.heap.size w' o (resize xs i), fun _ k _ => N - (vint k).toNat, ⟨0, rfl, by omega, Grow.refl w, VecO.nil⟩, ?_⟩
  rintro o _ - w1 ⟨i, rfl, hi, hg1, ho⟩
  refine px rfl (cD (fun hlt => ?_) (fun hge => ?_))
  · refine (c88 (ha.grow hg1) (by omega)).mono ?_
    rintro r w2 ⟨hg2, hr⟩
    refine (q87 hr h1 h2).mono ?_
    rintro r w3 ⟨hg3, hr⟩
    refine litQ hr fun s w4 hg4 hone => appQ1 (((ho.grow hg2).grow hg3).grow hg4) hone (hr.grow hg4) (by have := hg1.size; have := hg2.size; have := hg3.size; have := hg4.size; omega) (by simp [resize]; omega) fun o' w5 ho' hm hf => ?_
    have hbk := ho.block
    have hgg := ((hg1.trans hg2).trans hg3).trans hg4
    have e : resize xs i ++ [qat xs i] = resize xs (i + 1) := by simp [resize, List.range_succ]
    rw [e] at ho'
    refine pi rfl (by omega) ⟨⟨i + 1, by simp, by omega, Md.new hgg hm fun k hk => (hbk k hk).1, ho'⟩, ?_⟩
    simp only [vint_int]; omega
  · have : i = N := by omega
    subst this
    exact ⟨hg1, ho⟩
theorem unit_eq {N : Nat} {k : Nat} : (List.replicate N (0 : Rat)).set k 1 = unit N k := by
  apply List.ext_getElem?
  intro i
  simp only [unit, List.getElem?_set, List.getElem?_map, List.length_replicate, List.getElem?_replicate]
  by_cases h : i < N
  · rw [List.getElem?_range h]
    by_cases e : k = i
    · subst e; simp [h]
    · have e2 : ¬ ((i : Int) = (k : Int)) := by omega
      simp [e, h, e2]
  · rw [List.getElem?_eq_none (by simpa using h)]
    by_cases e : k = i
    · simp [e, h]
    · simp [e, h]
theorem unit_out {N : Nat} {k : Int} (h : ¬ (0 ≤ k ∧ k < N)) : List.replicate N (0 : Rat) = unit N k := by
  apply List.ext_getElem?
  intro i
  simp only [unit, List.getElem?_map, List.getElem?_replicate]
  by_cases hi : i < N
  · rw [List.getElem?_range hi]
    have : ¬ (i : Int) = k := by omega
    simp [hi, this]
  · rw [List.getElem?_eq_none (by simpa using hi)]; simp [hi]
theorem c52 {m k : Int} :
    CallP CC 52 [.int .i64 m, .int .i64 k] w fun r w' => Grow w w' ∧ VecO true 2 w.heap.size w' r (unit (min m.toNat 65536) k) := by
  apply call52
  refine px rfl (px (v := .int .i64 ((min m.toNat 65536 : Nat) : Int)) (by have := natmin (m := m); simpa [maxV] using this) ?_)
  obtain ⟨N, hN⟩ : ∃ N, N = min m.toNat 65536 := ⟨_, rfl⟩
  rw [← hN]
  have hN2 : N ≤ 65536 := by omega
  refine MakeP.mk (C := CC) sl23 ti30 rfl (by decide) (by omega) (by simp only [maxLen]; omega) fun g w1 hg1 hlt hlt' hb => ?_
  have ho : VecO true 2 w.heap.size w1 (.slice (some ⟨g, 0, none⟩) N N) (List.replicate N 0) := VecO.made hb (by decide) hlt (by omega)
  refine ⟨fun _ _ => ⟨_, rfl⟩, fun _ _ _ => ⟨_, rfl⟩, fun _ _ _ => ⟨_, rfl⟩, fun _ _ => ⟨_, rfl⟩, fun _ w2 hg2 => ?_⟩
  have e : gd (pickV (gd (binV (.int .i64) .geq (.int .i64 k) (.int .i64 0))) (gd (binV (.int .i64) .lss (.int .i64 k) (gd (lenV (tyOf tyTab 23) (.slice (some ⟨g, 0, none⟩) N N))))) (.bool false)) = .bool (decide (0 ≤ k ∧ k < N)) := by
    show gd (some (if decide (k ≥ 0) = true then Value.bool (decide (k < (N : Int))) else Value.bool false)) = _
    by_cases h : 0 ≤ k
    · simp [h]
    · simp [h]
  rw [e]
  refine cD (fun hk => ?_) (fun hk => ?_)
  · refine (q36 (n := 1) (by decide)).mono ?_
    rintro r w3 ⟨hg3, hr⟩
    obtain ⟨i, rfl⟩ : ∃ i : Nat, k = i := ⟨k.toNat, by omega⟩
    have ho3 := (ho.grow hg2).grow hg3
    obtain ⟨g', hg', hidx⟩ := ho3.idx (k := .i64) (i := i) (by simp; omega)
    refine px hidx (ho3.store hr hg' (by simp; omega) fun w4 hm ho4 => ?_)
    have e1 : ((1 : Int) : Rat) = 1 := rfl
    rw [e1, unit_eq] at ho4
    exact ⟨Md.new ((hg1.trans hg2).trans hg3) hm fun k hk => (ho3.block k hk).1, ho4⟩
  · rw [← unit_out hk]
    exact ⟨hg1.trans hg2, ho.grow hg2⟩
def I64s (P : Nat → Prop) (w : World) (v : Value) (l : List Int) : Prop := Sli (fun k _ => P k) w 2 1 v l.length (l.map fun n => .int .i64 n) ∧ ∀ n ∈ l, -9223372036854775808 ≤ n ∧ n < 9223372036854775808
theorem I64s.grow {l : List Int} (h : I64s P w v l) (hg : Grow w w') : I64s P w' v l := ⟨h.1.keep hg.kp, h.2⟩
theorem c73 {l : List Int} (h : I64s P w a l) :
    CallP CC 73 [a] w fun r w' => Grow w w' ∧ VecO true 2 w.heap.size w' r (ratsOf l) := by
  apply call73
  have hlim := h.1.lim
  refine px h.1.len ?_
  refine ⟨fun o k w' => ∃ i : Nat, k = .int .i64 i ∧ i ≤ l.length ∧ Grow w w' ∧ VecO true 2 w.heap.size w' o (ratsOf (l.take i)), fun _ k _ => l.length - (vint k).toNat, ⟨0, rfl, by omega, Grow.refl w, by simpa [ratsOf] using VecO.nil (c := true) (L := 2) (w := w)⟩, ?_⟩
  rintro o _ - w1 ⟨i, rfl, hi, hg1, ho⟩
  refine px rfl (cD (fun hlt => ?_) (fun hge => ?_))
  · have hlt' : i < l.length := by omega
    obtain ⟨ad, had⟩ := h.1.idx (k := .i64) hlt'
    refine px had (Sli.load1 (C := CC) (h.grow hg1).1 ti2 had (u := .int .i64 l[i]) (by simp [hlt']) ?_)
    refine (q36 (h.2 l[i] (List.getElem_mem hlt'))).mono ?_
    rintro r w2 ⟨hg2, hr⟩
    refine litQ hr fun s w4 hg4 hone => appQ1 ((ho.grow hg2).grow hg4) hone (hr.grow hg4) (by have := hg1.size; have := hg2.size; have := hg4.size; omega) (by simp [ratsOf]; omega) fun o' w5 ho' hm hf => ?_
    have hbk := ho.block
    have e : ratsOf (l.take i) ++ [(l[i] : Rat)] = ratsOf (l.take (i + 1)) := by
      rw [List.take_add_one, List.getElem?_eq_getElem hlt']; simp only [ratsOf, List.map_append, Option.toList_some, List.map_cons, List.map_nil]
    rw [e] at ho'
    refine pi rfl (by omega) ⟨⟨i + 1, by simp, by omega, Md.new ((hg1.trans hg2).trans hg4) hm fun k hk => (hbk k hk).1, ho'⟩, ?_⟩
    simp only [vint_int]; omega
  · have : i = l.length := by omega
    subst this
    rw [List.take_length] at ho
    exact ⟨hg1, ho⟩
end
end Go.Proofs.YtaajkcngcalgoaaGreat
namespace Go.Proofs.YtaajkcngcalgoaaGreat
open Go Go.Vc Go.Spx
attribute [local irreducible] Tryz.prog
section
variable {c c' d : Bool} {L M K base n : Nat} {w w' w'' : World} {v o s u a b q : Value} {x y z : Rat} {xs ys row : List Rat} {S P Q : Nat → Prop}
theorem c158 {g : Nat} (hs : ResR d K w g z) (ha : QR c L w a x) (h1 : 2 ≤ L) (h3 : 2 ≤ K) (h4 : K + L < 268435456) :
    CallP CC 158 [a, .pointer (some ⟨g, 0, none⟩)] w fun r w' => Md (· = g) w w' ∧ QR true (K + L + 1) w' r (z + x) ∧ ResR true (K + L + 1) w' g (z + x) := by
  have hgl : g < w.heap.size := by obtain ⟨cs, _, hb, _⟩ := hs; exact hb.lt
  apply call158
  refine BoxP.q ha fun g2 w1 hg1 hlt2 hlt2' hb2 => AllocP.mk ti30 fun g3 w2 hg2 hlt3 hlt3' hb3 => ?_
  have hg02 := hg1.trans hg2
  have hs1 := hg1.size
  refine (hs.grow hg02).load fun r4 h4' => (hb2.grow hg2).load fun r5 h5 => (q41 h4' h5 h3 (by omega) h1 (by omega)).mono ?_
  rintro r6 w3 ⟨hg3, h6⟩
  have hg03 := hg02.trans hg3
  refine (hs.grow hg03).store h6 fun w4 hm4 hr4 => hr4.load fun r7 h7 => ?_
  refine storeR ((hb3.grow hg3).md hm4 (by omega)) rfl h7 fun w5 hm5 hr5 => ?_
  obtain ⟨r, hr1, hr2⟩ := hr5.res
  refine ⟨_, _, rfl, hr1, ?_, hr2, hr4.md hm5 (by omega)⟩
  -- the block of the variable is new
  have h35 : Md (fun k => k = g ∨ k = g3) w w5 := ((Md.grow hg03).trans (hm4.mono fun k hk => .inl hk)).trans (hm5.mono fun k hk => .inr hk)
  refine ⟨⟨h35.upd.os, h35.upd.tape, h35.upd.output, h35.upd.size, fun k o hk ho => h35.upd.block k o ?_ ho⟩, h35.kw⟩
  rintro (h | h)
  · exact hk h
  · have := lt_of_get ho; omega
theorem c92 : CallP CC 92 [] w fun r w' => Grow w w' ∧ ∃ g, w.heap.size ≤ g ∧ r = .func (.func 158) #[] #[.pointer (some ⟨g, 0, none⟩)] ∧ ResR true 2 w' g 0 := by
  apply call92
  refine px rfl (AllocP.mk ti30 fun g w1 hg1 hlt hlt' hb => storeR hb rfl (QR.zero (c := true) (L := 2) (by decide)) fun w2 hm hr => px rfl ?_)
  exact ⟨Md.new hg1 hm (fun k hk => by omega), g, hlt, rfl, hr⟩
theorem sumQ_snoc {l : List Rat} {x : Rat} : sumQ (l ++ [x]) = sumQ l + x := by simp [sumQ]
theorem c34 (ha : Vec c L P w a xs) (hb : Vec c' M P w b ys) (h1 : 2 ≤ L) (h2 : 2 ≤ M) (hn : max xs.length ys.length < 1099511627776) (h4 : 2 + (max xs.length ys.length + 1) * (L + M + 1) < 268435456) :
    CallP CC 34 [a, b] w fun r w' => Grow w w' ∧ QR true (2 + max xs.length ys.length * (L + M + 1)) w' r (dot xs ys) := by
  obtain ⟨N, hN⟩ : ∃ N, N = max xs.length ys.length := ⟨_, rfl⟩
  have hKs : ∀ k, k ≤ N → 2 + k * (L + M + 1) < 268435456 := fun k hk => by
    have : k * (L + M + 1) ≤ (max xs.length ys.length + 1) * (L + M + 1) := Nat.mul_le_mul_right _ (by omega)
    omega
  have hLM : L + M < 268435456 := by
    have : 1 * (L + M + 1) ≤ (max xs.length ys.length + 1) * (L + M + 1) := Nat.mul_le_mul_right _ (by omega)
    omega
  apply call34
  refine AllocP.mk ti30 fun g4 w1 hg1 hlt4 hlt4' hb4 => (c92 (w := w1)).mono ?_
  rintro _ w2 ⟨hg2, gs, hgs, rfl, hs2⟩
  refine AllocP.mk ti124 fun g5 w3 hg3 hlt5 hlt5' hb5 => StoreP.var ti124 hb5 rfl fun w4 hu4 hb5' => ?_
  have hgsl : gs < w2.heap.size := by obtain ⟨cs, _, hb, _⟩ := hs2; exact hb.lt
  have hm4 := Md.of hu4 hb5 (by decide)
  have s1 := hg1.size
  have s2 := hg2.size
  have s3 := hg3.size
  have hg04 : Grow w w4 := Md.new ((hg1.trans hg2).trans hg3) hm4 (fun k hk => by omega)
  have s4 := hm4.size
  refine (c93 (ha.old.grow hg04) (hb.old.grow hg04)).mono ?_
  rintro _ w5 ⟨hg5, g1, g2, hl1, hl2, hl1', hl2', rfl, hP⟩
  have s5 := hg5.size
  have hg05 := hg04.trans hg5
  have hs5 := (((hs2.grow hg3).md hm4 (by omega)).grow hg5)
  have hb55 := hb5'.grow hg5
  have hr4 : ResR true 2 w5 g4 0 := ResR.of (cs := zeroQ) (((hb4.grow hg2).grow hg3).md hm4 (by omega) |>.grow hg5) (QR.zero (by decide))
  refine ⟨159, _, rfl, rfl, _, _, _, iter159 (c := c) (L := L) (c' := c') (M := M) (P := fun k => k < w.heap.size) (a := a) (b := b) (xs := xs) (ys := ys) (by omega) (by omega), fun k w' vs ⟨v, h, _⟩ => by rw [h]; rfl,
    fun k w' => Md (fun k => w.heap.size ≤ k) w5 w' ∧ VecsAt c L c' M (fun k => k < w.heap.size) g1 g2 a b xs ys w' ∧ Blk w' g5 124 [.func (.func 158) #[] #[.pointer (some ⟨gs, 0, none⟩)]] ∧
      ResR true (2 + k * (L + M + 1)) w' gs (sumQ ((vwith (· * ·) xs ys).take k)) ∧ ResR true (2 + k * (L + M + 1)) w' g4 (sumQ ((vwith (· * ·) xs ys).take k)),
    fun _ _ => False, ?_, fun _ _ h => h.2.1, ?_, ?_, fun _ _ h => h.elim⟩
  · intro w' hs
    refine ⟨Md.sys hs hg05.size, hP.sys hs, hb55.sys hs, ?_, ?_⟩
    · simpa [sumQ] using hs5.sys hs
    · simpa [sumQ] using hr4.sys hs
  · rintro k hk x12 x13 w6 ⟨hm6, hP6, hb56, hs6, hr6⟩ ⟨v, hv, hp⟩
    simp only [List.cons.injEq, and_true] at hv
    obtain ⟨rfl, rfl⟩ := hv
    refine ArrR.begin hp fun g7 w7 hg7 hl7 har w8 hs8 => ?_
    have z6 := hm6.size
    have z7 := hg7.size
    have z8 := hs8.size
    have har8 := har.sys hs8
    have hP8 := (hP6.grow hg7).sys hs8
    have hb58 := (hb56.grow hg7).sys hs8
    have hs8' := (hs6.grow hg7).sys hs8
    have hr8 := (hr6.grow hg7).sys hs8
    have hm8 : Md (fun k => w.heap.size ≤ k) w5 w8 := (hm6.trans (Md.grow hg7)).trans (Md.sys hs8 hg05.size)
    have hk1 : k + 1 ≤ N := by omega
    have hK := hKs (k + 1) hk1
    have e : 2 + k * (L + M + 1) + (L + M) + 1 = 2 + (k + 1) * (L + M + 1) := by rw [Nat.add_mul]; omega
    have es : sumQ ((vwith (· * ·) xs ys).take k) + qat xs k * qat ys k = sumQ ((vwith (· * ·) xs ys).take (k + 1)) := by
      rw [← with_step hk, sumQ_snoc]
    refine ⟨PhS (fun k => k = gs ∨ k = g4), fun l w' => match l with
        | [] => True
        | [v] => Md (fun k => k = gs ∨ k = g4) w8 w' ∧ QR true (2 + (k + 1) * (L + M + 1)) w' v (sumQ ((vwith (· * ·) xs ys).take (k + 1))) ∧ ResR true (2 + (k + 1) * (L + M + 1)) w' gs (sumQ ((vwith (· * ·) xs ys).take (k + 1))) ∧ ResR true (2 + k * (L + M + 1)) w' g4 (sumQ ((vwith (· * ·) xs ys).take k))
        | _ => Md (fun k => k = gs ∨ k = g4) w8 w' ∧ ResR true (2 + (k + 1) * (L + M + 1)) w' gs (sumQ ((vwith (· * ·) xs ys).take (k + 1))) ∧ ResR true (2 + (k + 1) * (L + M + 1)) w' g4 (sumQ ((vwith (· * ·) xs ys).take (k + 1))),
      PhS.grow _, PhS.trans _, fun _ _ => trivial, fun v _ => v = .func (.func 158) #[] #[.pointer (some ⟨gs, 0, none⟩)], fun v s => QR c L s.2 v (qat xs k), fun v s => QR c' M s.2 v (qat ys k), fun v s => QR true (L + M) s.2 v (qat xs k * qat ys k), fun _ _ => True, fun _ _ => True, ?_, ?_, ?_, ?_, ?_, ?_, ?_, ?_, ?_⟩
    · intro n w9 hn ht
      obtain ⟨rfl, hg⟩ := ht.z hn
      exact LoadP.fld (hb58.grow hg) ti124 rfl ⟨Grow.refl _, fun _ _ _ => rfl⟩
    · exact fun _ _ _ _ _ => ⟨_, rfl⟩
    · intro _ n w9 hn ht
      obtain ⟨rfl, hg⟩ := ht.z hn
      exact (har8.grow hg).load0 fun r hr => ⟨Grow.refl _, fun m w10 ht => hr.md ht.md⟩
    · exact fun _ _ _ _ _ _ => ⟨_, rfl⟩
    · intro _ _ n w9 hn ht
      obtain ⟨rfl, hg⟩ := ht.z hn
      exact (har8.grow hg).load1 fun r hr => ⟨Grow.refl _, fun m w10 ht => hr.md ht.md⟩
    · intro _ _ _ n w9 hn ht h16 h18
      exact fg (q44 h16 h18 h1 (by omega) h2 (by omega)) fun r w5 m w6 hr ht => hr.md ht.md
    · rintro _ _ _ v19 n w9 hn ht rfl _ rfl _ _ h19
      have hg := ht.z0
      refine callV.func (cap := #[.pointer (some ⟨gs, 0, none⟩)]) rfl ((c158 (hs8'.grow hg) h19 (by omega) (by omega) (by omega)).mono ?_)
      rintro r w10 ⟨hm10, hr10, hs10⟩
      rw [e, es] at hr10 hs10
      have hm' : Md (fun k => k = gs ∨ k = g4) w9 w10 := hm10.mono fun k hk => .inl hk
      exact ⟨PhS.next hm', fun _ _ _ => trivial, fun w11 hg11 => ⟨((Md.grow hg).trans hm').trans (Md.grow hg11), hr10.grow hg11, hs10.grow hg11, ((hr8.grow hg).md hm10 (by omega)).grow hg11⟩⟩
    · rintro _ _ _ _ v20 n w9 hn ht rfl ⟨hm9, h20, hs9, hr9⟩ _ _ _ _ _
      refine hr9.store h20 fun w10 hm10 hr10 => ?_
      have hm' : Md (fun k => k = gs ∨ k = g4) w9 w10 := hm10.mono fun k hk => .inr hk
      exact ⟨PhS.next hm', fun _ _ _ => trivial, fun w11 hg11 => ⟨(hm9.trans hm').trans (Md.grow hg11), (hs9.md hm10 (by omega)).grow hg11, hr10.grow hg11⟩⟩
    · rintro _ _ _ _ _ _ _ w9 ht _ _ _ _ _ _ ⟨hm9, hs9, hr9⟩ w10 hs10
      have hm' : Md (fun k => w.heap.size ≤ k) w8 w10 := (hm9.mono fun k hk => by omega).trans (Md.sys hs10 hg05.size)
      exact ⟨hm8.trans hm', (hP8.md hm9 (by omega) (by omega) (fun k hk => by omega)).sys hs10, (hb58.md hm9 (by omega)).sys hs10, hs9.sys hs10, hr9.sys hs10⟩
  · rintro w6 ⟨hm6, _, _, _, hr6⟩
    refine hr6.load fun r hr => hr6.store hr fun w7 hm7 hr7 w8 hs8 => ?_
    obtain ⟨v, hv, hq⟩ := (hr7.sys hs8).res
    refine ⟨_, _, rfl, hv, Md.new hg05 ((hm6.trans (hm7.mono fun k hk => by omega)).trans (Md.sys hs8 (Nat.le_refl _))) (fun _ h => h), ?_⟩
    rw [List.take_of_length_le (by rw [vwith_length]; exact Nat.le_refl _)] at hq
    exact hq
theorem firstNZ_append (a b : List Int) : firstNZ (a ++ b) = if firstNZ a ≠ 0 then firstNZ a else firstNZ b := by
  induction a with
  | nil => simp [firstNZ]
  | cons x r ih =>
    simp only [List.cons_append, firstNZ, ih]
    by_cases h : x = 0
    · simp [h]
    · simp [h]
def cmps (xs ys : List Rat) : List Int := (List.range (max xs.length ys.length)).map fun k => vsgn (qat xs k - qat ys k)
theorem cmps_get {k : Nat} (hk : k < max xs.length ys.length) : (cmps xs ys)[k]? = some (vsgn (qat xs k - qat ys k)) := by
  unfold cmps; rw [List.getElem?_map, List.getElem?_range hk]; rfl
theorem cmps_step {k : Nat} (hk : k < max xs.length ys.length) : (cmps xs ys).take k ++ [vsgn (qat xs k - qat ys k)] = (cmps xs ys).take (k + 1) := by
  rw [List.take_add_one, cmps_get hk]; rfl
theorem vcmp_at {k : Nat} (hk : k < max xs.length ys.length) (h0 : firstNZ ((cmps xs ys).take k) = 0) (hn : vsgn (qat xs k - qat ys k) ≠ 0) : vcmp xs ys = vsgn (qat xs k - qat ys k) := by
  have e : vcmp xs ys = firstNZ (cmps xs ys) := rfl
  rw [e, ← List.take_append_drop (k + 1) (cmps xs ys), firstNZ_append, ← cmps_step hk, firstNZ_append, h0]
  simp [firstNZ, hn]
theorem c38 (ha : Vec c L P w a xs) (hb : Vec c' M P w b ys) (h1 : 2 ≤ L) (h2 : 2 ≤ M) (h3 : L ≤ 268435456) (h4 : M ≤ 268435456) :
    CallP CC 38 [a, b] w fun r w' => Grow w w' ∧ r = .int .i64 (vcmp xs ys) := by
  apply call38
  refine AllocP.mk ti3 fun g4 w1 hg1 hlt4 hlt4' hb4 => (c93 (ha.old.grow hg1) (hb.old.grow hg1)).mono ?_
  rintro _ w2 ⟨hg2, g1, g2, hl1, hl2, hl1', hl2', rfl, hP⟩
  have s1 := hg1.size
  have s2 := hg2.size
  have hg02 := hg1.trans hg2
  refine ⟨159, _, rfl, rfl, _, _, _, iter159 (c := c) (L := L) (c' := c') (M := M) (P := fun k => k < w.heap.size) (a := a) (b := b) (xs := xs) (ys := ys) (by omega) (by omega), fun k w' vs ⟨v, h, _⟩ => by rw [h]; rfl,
    fun k w' => Md (fun k => w.heap.size ≤ k) w2 w' ∧ VecsAt c L c' M (fun k => k < w.heap.size) g1 g2 a b xs ys w' ∧ Blk w' g4 3 [.int .i64 0] ∧ firstNZ ((cmps xs ys).take k) = 0,
    fun j w' => j = .ret ∧ Md (fun k => w.heap.size ≤ k) w2 w' ∧ Blk w' g4 3 [.int .i64 (vcmp xs ys)], ?_, fun _ _ h => h.2.1, ?_, ?_, ?_⟩
  · intro w' hs
    exact ⟨Md.sys hs hg02.size, hP.sys hs, (hb4.grow hg2).sys hs, rfl⟩
  · rintro k hk x12 x13 w3 ⟨hm3, hP3, hb3, h0⟩ ⟨v, hv, hp⟩
    simp only [List.cons.injEq, and_true] at hv
    obtain ⟨rfl, rfl⟩ := hv
    refine ArrR.begin hp fun g7 w4 hg4 hl7 har w5 hs5 => ?_
    have har5 := har.sys hs5
    have hP5 := (hP3.grow hg4).sys hs5
    have hb5 := (hb3.grow hg4).sys hs5
    have hm5 : Md (fun k => w.heap.size ≤ k) w2 w5 := (hm3.trans (Md.grow hg4)).trans (Md.sys hs5 hg02.size)
    refine px rfl (har5.load0 fun r14 h14 => px rfl (har5.load1 fun r16 h16 => (c33 h14 h16 h1 h3 h2 h4).mono ?_))
    rintro _ w6 ⟨hg6, rfl⟩
    have hb6 := hb5.grow hg6
    refine px rfl (cB (fun hne => ?_) (fun he => ?_))
    · have hne' : vsgn (qat xs k - qat ys k) ≠ 0 := by simpa using hne
      refine StoreP.var ti3 hb6 rfl fun w7 hu hb7 w8 hs8 => ?_
      have hm7 := Md.of hu hb6 (by decide)
      refine ⟨rfl, ((hm5.trans (Md.grow hg6)).trans (hm7.mono fun k hk => by omega)).trans (Md.sys hs8 hg02.size), ?_⟩
      rw [vcmp_at hk h0 hne']; exact hb7.sys hs8
    · have he' : vsgn (qat xs k - qat ys k) = 0 := by simpa using he
      intro w8 hs8
      refine ⟨(hm5.trans (Md.grow hg6)).trans (Md.sys hs8 hg02.size), (hP5.grow hg6).sys hs8, hb6.sys hs8, ?_⟩
      rw [← cmps_step hk, firstNZ_append, h0, he']; rfl
  · rintro w3 ⟨hm3, _, hb3, h0⟩
    refine StoreP.var ti3 hb3 rfl fun w4 hu hb4 w5 hs5 => ?_
    have hm4 := Md.of hu hb3 (by decide)
    refine ⟨_, _, rfl, res_one ti3 (hb4.sys hs5), Md.new hg02 ((hm3.trans (hm4.mono fun k hk => by omega)).trans (Md.sys hs5 (Nat.le_refl _))) (fun _ h => h), ?_⟩
    rw [List.take_of_length_le (by simp [cmps])] at h0
    show _ = Value.int .i64 (firstNZ (cmps xs ys))
    rw [h0]
  · rintro j w3 ⟨rfl, hm3, hb3⟩
    intro w4 hs4
    exact ⟨_, _, rfl, res_one ti3 (hb3.sys hs4), Md.new hg02 (hm3.trans (Md.sys hs4 (Nat.le_refl _))) (fun _ h => h), rfl⟩
theorem c95 (ha : Vec c L P w a xs) (hb : Vec c' M P w b ys) (h1 : 2 ≤ L) (h2 : 2 ≤ M) (h3 : L ≤ 268435456) (h4 : M ≤ 268435456) :
    CallP CC 95 [a, b] w fun r w' => Grow w w' ∧ ∃ i, r = .tuple #[.int .i64 i, .bool (anyGt xs ys)] := by
  apply call95
  refine AllocP.mk ti3 fun g4 w1 hg1 hlt4 hlt4' hb4 => AllocP.mk ti4 fun g5 w2 hg2 hlt5 hlt5' hb5 => ?_
  have hg02 := hg1.trans hg2
  have s1 := hg1.size
  have s2 := hg2.size
  refine (c93 (ha.old.grow hg02) (hb.old.grow hg02)).mono ?_
  rintro _ w3 ⟨hg3, g1, g2, hl1, hl2, hl1', hl2', rfl, hP⟩
  have s3 := hg3.size
  have hg03 := hg02.trans hg3
  refine ⟨159, _, rfl, rfl, _, _, _, iter159 (c := c) (L := L) (c' := c') (M := M) (P := fun k => k < w.heap.size) (a := a) (b := b) (xs := xs) (ys := ys) (by omega) (by omega), fun k w' vs ⟨v, h, _⟩ => by rw [h]; rfl,
    fun k w' => Md (fun k => w.heap.size ≤ k) w3 w' ∧ VecsAt c L c' M (fun k => k < w.heap.size) g1 g2 a b xs ys w' ∧ Blk w' g4 3 [.int .i64 0] ∧ Blk w' g5 4 [.bool false] ∧ ∀ i < k, ¬ 0 < vsgn (qat xs i - qat ys i),
    fun j w' => j = .ret ∧ Md (fun k => w.heap.size ≤ k) w3 w' ∧ (∃ i : Nat, Blk w' g4 3 [.int .i64 i]) ∧ Blk w' g5 4 [.bool true] ∧ anyGt xs ys = true, ?_, fun _ _ h => h.2.1, ?_, ?_, ?_⟩
  · intro w' hs
    exact ⟨Md.sys hs hg03.size, hP.sys hs, ((hb4.grow hg2).grow hg3).sys hs, (hb5.grow hg3).sys hs, fun i hi => by omega⟩
  · rintro k hk x12 x13 w4 ⟨hm4, hP4, hb44, hb54, h0⟩ ⟨v, hv, hp⟩
    simp only [List.cons.injEq, and_true] at hv
    obtain ⟨rfl, rfl⟩ := hv
    refine ArrR.begin hp fun g7 w5 hg5 hl7 har w6 hs6 => ?_
    have har6 := har.sys hs6
    have hP6 := (hP4.grow hg5).sys hs6
    have hb46 := (hb44.grow hg5).sys hs6
    have hb56 := (hb54.grow hg5).sys hs6
    have hm6 : Md (fun k => w.heap.size ≤ k) w3 w6 := (hm4.trans (Md.grow hg5)).trans (Md.sys hs6 hg03.size)
    refine px rfl (har6.load0 fun r14 h14 => px rfl (har6.load1 fun r16 h16 => (c33 h14 h16 h1 h3 h2 h4).mono ?_))
    rintro _ w7 ⟨hg7, rfl⟩
    have hb47 := hb46.grow hg7
    have hb57 := hb56.grow hg7
    refine px rfl (cD (fun hgt => ?_) (fun hle => ?_))
    · refine StoreP.var ti3 hb47 rfl fun w8 hu hb8 => StoreP.var ti4 (hb57.upd hu (by omega)) rfl fun w9 hu9 hb9 w10 hs10 => ?_
      have hm8 := Md.of hu hb47 (by decide)
      have hm9 := Md.of hu9 (hb57.upd hu (by omega)) (by decide)
      refine ⟨rfl, (((hm6.trans (Md.grow hg7)).trans (hm8.mono fun k hk => by omega)).trans (hm9.mono fun k hk => by omega)).trans (Md.sys hs10 hg03.size), ⟨k, (hb8.upd hu9 (by omega)).sys hs10⟩, hb9.sys hs10, ?_⟩
      unfold anyGt
      rw [List.any_eq_true]
      exact ⟨k, by simpa using hk, by simpa using hgt⟩
    · intro w8 hs8
      refine ⟨(hm6.trans (Md.grow hg7)).trans (Md.sys hs8 hg03.size), (hP6.grow hg7).sys hs8, hb47.sys hs8, hb57.sys hs8, fun i hi => ?_⟩
      by_cases e : i = k
      · subst e; exact hle
      · exact h0 i (by omega)
  · rintro w4 ⟨hm4, _, hb44, hb54, h0⟩
    refine StoreP.var ti3 hb44 rfl fun w8 hu hb8 => StoreP.var ti4 (hb54.upd hu (by omega)) rfl fun w9 hu9 hb9 w10 hs10 => ?_
    have hm8 := Md.of hu hb44 (by decide)
    have hm9 := Md.of hu9 (hb54.upd hu (by omega)) (by decide)
    refine ⟨_, _, rfl, res_one ti3 ((hb8.upd hu9 (by omega)).sys hs10), _, _, rfl, res_one ti4 (hb9.sys hs10), Md.new hg03 (((hm4.trans (hm8.mono fun k hk => by omega)).trans (hm9.mono fun k hk => by omega)).trans (Md.sys hs10 (Nat.le_refl _))) (fun _ h => h), 0, ?_⟩
    have : anyGt xs ys = false := by
      unfold anyGt
      rw [List.any_eq_false]
      intro i hi
      simpa using h0 i (by simpa using hi)
    rw [this]
  · rintro j w4 ⟨rfl, hm4, ⟨i, hb44⟩, hb54, h0⟩
    intro w5 hs5
    exact ⟨_, _, rfl, res_one ti3 (hb44.sys hs5), _, _, rfl, res_one ti4 (hb54.sys hs5), Md.new hg03 (hm4.trans (Md.sys hs5 (Nat.le_refl _))) (fun _ h => h), i, by rw [h0]⟩
end
end Go.Proofs.YtaajkcngcalgoaaGreat
set_option maxRecDepth 100000
set_option linter.unusedVariables false
namespace Go.Proofs.YtaajkcngcalgoaaGreat
open Go Go.Vc
def V139 (a0 : Value) (w : World) (R : Value → World → Prop) : Prop :=
  ∃ x6, lenV (τ 22) a0 = some x6 ∧
  ∃ (I : Value → Value → World → Prop) (μ : Value → Value → World → Nat), I (.int .i64 0) (.int .i64 0) w ∧
  ∀ y2 : Value, ∀ y7 : Value, ∀ (h : Nat → Value) (w_1 : World), I y2 y7 w_1 →
    ∃ x8, binV (.int .i64) .lss y7 x6 = some x8 ∧
    CondP x8 (
      ∃ x9, indexAddrV (τ 22) a0 y7 = some x9 ∧
      LoadP CC 23 x9 w_1 fun x10 w_2 =>
      ∃ x13, lenV (τ 23) x10 = some x13 ∧
      ∃ x14, maxV y2 x13 = some x14 ∧
      ∃ x15, binV (.int .i64) .add y7 (.int .i64 1) = some x15 ∧
      I x14 x15 w_2 ∧ μ x14 x15 w_2 < μ y2 y7 w_1) (
      R y2 w_1)
theorem V139_eq (a0 : Value) (w : World) (R : Value → World → Prop) : V139 a0 w R = FnP CC { keep := fun | 2 => [2, 7] | _ => [], lin := fun _ => [] } Tryz.f139 [a0] w R := by kernel_rfl
theorem call139 {a0 : Value} {w : World} {R : Value → World → Prop} (h : V139 a0 w R) : CallP CC 139 [a0] w R :=
  call_of_vc CC.ok _ Tryz.func139 (V139_eq a0 w R ▸ h)
def V178 (a0 a1 a2 : Value) (w : World) (R : Value → World → Prop) : Prop :=
  AllocP CC 30 w fun x6 w_1 =>
  ∃ A24 : Value → World → Prop,
  (Fw Grow w_1 fun z => (Is (binV (.int .i64) .lss a1 (.int .i64 0)))) ∧
  (Fw Grow w_1 fun z => ((gd (binV (.int .i64) .lss a1 (.int .i64 0))) = .bool false → (Is (lenV (τ 22) a0)))) ∧
  (Fw Grow w_1 fun z => ((gd (binV (.int .i64) .lss a1 (.int .i64 0))) = .bool false → (Is (binV (.int .i64) .geq a1 (gd (lenV (τ 22) a0)))))) ∧
  (Fw Grow w_1 fun z => (Is (pickV (gd (binV (.int .i64) .lss a1 (.int .i64 0))) (.bool true) (gd (binV (.int .i64) .geq a1 (gd (lenV (τ 22) a0))))))) ∧
  (Fw Grow w_1 fun z => ((gd (pickV (gd (binV (.int .i64) .lss a1 (.int .i64 0))) (.bool true) (gd (binV (.int .i64) .geq a1 (gd (lenV (τ 22) a0)))))) = .bool false → (Is (binV (.int .i64) .lss a2 (.int .i64 0))))) ∧
  (Fw Grow w_1 fun z => (Is (pickV (gd (pickV (gd (binV (.int .i64) .lss a1 (.int .i64 0))) (.bool true) (gd (binV (.int .i64) .geq a1 (gd (lenV (τ 22) a0)))))) (.bool true) (gd (binV (.int .i64) .lss a2 (.int .i64 0)))))) ∧
  (Fw Grow w_1 fun z => ((gd (pickV (gd (pickV (gd (binV (.int .i64) .lss a1 (.int .i64 0))) (.bool true) (gd (binV (.int .i64) .geq a1 (gd (lenV (τ 22) a0)))))) (.bool true) (gd (binV (.int .i64) .lss a2 (.int .i64 0))))) = .bool false → (Is (indexAddrV (τ 22) a0 a1)))) ∧
  (Fw Grow w_1 fun z => ((gd (pickV (gd (pickV (gd (binV (.int .i64) .lss a1 (.int .i64 0))) (.bool true) (gd (binV (.int .i64) .geq a1 (gd (lenV (τ 22) a0)))))) (.bool true) (gd (binV (.int .i64) .lss a2 (.int .i64 0))))) = .bool false → (LoadP CC 23 (gd (indexAddrV (τ 22) a0 a1)) z (Gw Grow A24 z)))) ∧
  (∀ v24 : Value, Fw Grow w_1 fun z => ((gd (pickV (gd (pickV (gd (binV (.int .i64) .lss a1 (.int .i64 0))) (.bool true) (gd (binV (.int .i64) .geq a1 (gd (lenV (τ 22) a0)))))) (.bool true) (gd (binV (.int .i64) .lss a2 (.int .i64 0))))) = .bool false → A24 v24 z) → ((gd (pickV (gd (pickV (gd (binV (.int .i64) .lss a1 (.int .i64 0))) (.bool true) (gd (binV (.int .i64) .geq a1 (gd (lenV (τ 22) a0)))))) (.bool true) (gd (binV (.int .i64) .lss a2 (.int .i64 0))))) = .bool false → (Is (lenV (τ 23) v24)))) ∧
  (∀ v24 : Value, Fw Grow w_1 fun z => ((gd (pickV (gd (pickV (gd (binV (.int .i64) .lss a1 (.int .i64 0))) (.bool true) (gd (binV (.int .i64) .geq a1 (gd (lenV (τ 22) a0)))))) (.bool true) (gd (binV (.int .i64) .lss a2 (.int .i64 0))))) = .bool false → A24 v24 z) → ((gd (pickV (gd (pickV (gd (binV (.int .i64) .lss a1 (.int .i64 0))) (.bool true) (gd (binV (.int .i64) .geq a1 (gd (lenV (τ 22) a0)))))) (.bool true) (gd (binV (.int .i64) .lss a2 (.int .i64 0))))) = .bool false → (Is (binV (.int .i64) .geq a2 (gd (lenV (τ 23) v24)))))) ∧
  (∀ v24 : Value, Fw Grow w_1 fun z => ((gd (pickV (gd (pickV (gd (binV (.int .i64) .lss a1 (.int .i64 0))) (.bool true) (gd (binV (.int .i64) .geq a1 (gd (lenV (τ 22) a0)))))) (.bool true) (gd (binV (.int .i64) .lss a2 (.int .i64 0))))) = .bool false → A24 v24 z) → (Is (pickV (gd (pickV (gd (pickV (gd (binV (.int .i64) .lss a1 (.int .i64 0))) (.bool true) (gd (binV (.int .i64) .geq a1 (gd (lenV (τ 22) a0)))))) (.bool true) (gd (binV (.int .i64) .lss a2 (.int .i64 0))))) (.bool true) (gd (binV (.int .i64) .geq a2 (gd (lenV (τ 23) v24))))))) ∧
  ∀ v24 : Value, ∀ (h : Nat → Value) (w_2 : World), Grow w_1 w_2 → ((gd (pickV (gd (pickV (gd (binV (.int .i64) .lss a1 (.int .i64 0))) (.bool true) (gd (binV (.int .i64) .geq a1 (gd (lenV (τ 22) a0)))))) (.bool true) (gd (binV (.int .i64) .lss a2 (.int .i64 0))))) = .bool false → A24 v24 w_2) → 
  CondP (gd (pickV (gd (pickV (gd (pickV (gd (binV (.int .i64) .lss a1 (.int .i64 0))) (.bool true) (gd (binV (.int .i64) .geq a1 (gd (lenV (τ 22) a0)))))) (.bool true) (gd (binV (.int .i64) .lss a2 (.int .i64 0))))) (.bool true) (gd (binV (.int .i64) .geq a2 (gd (lenV (τ 23) v24)))))) (
    ∃ x28, buildV (τ 30) [] = some x28 ∧
    StoreP CC 30 x6 x28 w_2 fun w_3 =>
    ∃ ad r, x6 = .pointer (some ad) ∧ (loadVar 30 ad).run CC.P w_3 = .ok r w_3 ∧
    R r w_3) (
    ∃ x31, indexAddrV (τ 22) a0 a1 = some x31 ∧
    LoadP CC 23 x31 w_2 fun x32 w_4 =>
    ∃ x34, indexAddrV (τ 23) x32 a2 = some x34 ∧
    LoadP CC 30 x34 w_4 fun x35 w_5 =>
    CallP CC 87 [x35] w_5 fun x36 w_6 =>
    StoreP CC 30 x6 x36 w_6 fun w_7 =>
    ∃ ad_1 r_1, x6 = .pointer (some ad_1) ∧ (loadVar 30 ad_1).run CC.P w_7 = .ok r_1 w_7 ∧
    R r_1 w_7)
theorem V178_eq (a0 a1 a2 : Value) (w : World) (R : Value → World → Prop) : V178 a0 a1 a2 w R = FnP CC { keep := fun _ => [], lin := fun _ => [] } Tryz.f178 [a0, a1, a2] w R := by kernel_rfl
theorem call178 {a0 a1 a2 : Value} {w : World} {R : Value → World → Prop} (h : V178 a0 a1 a2 w R) : CallP CC 178 [a0, a1, a2] w R :=
  call_of_vc CC.ok _ Tryz.func178 (V178_eq a0 a1 a2 w R ▸ h)
def V86 (a0 a1 : Value) (w : World) (R : Value → World → Prop) : Prop :=
  ∃ x8, lenV (τ 22) a0 = some x8 ∧
  ∃ (I : Value → Value → World → Prop) (μ : Value → Value → World → Nat), I (.slice none 0 0) (.int .i64 0) w ∧
  ∀ y4 : Value, ∀ y9 : Value, ∀ (h : Nat → Value) (w_1 : World), I y4 y9 w_1 →
    ∃ x10, binV (.int .i64) .lss y9 x8 = some x10 ∧
    CondP x10 (
      ∃ x11, indexAddrV (τ 22) a0 y9 = some x11 ∧
      LoadP CC 23 x11 w_1 fun x12 w_2 =>
      CallP CC 34 [x12, a1] w_2 fun x16 w_3 =>
      LitP CC 23 1 [(0, x16)] w_3 fun x17 w_4 =>
      AppendP CC #[23, 23] 23 [y4, x17] w_4 fun x18 w_5 =>
      ∃ x19, binV (.int .i64) .add y9 (.int .i64 1) = some x19 ∧
      I x18 x19 w_5 ∧ μ x18 x19 w_5 < μ y4 y9 w_1) (
      R y4 w_1)
theorem V86_eq (a0 a1 : Value) (w : World) (R : Value → World → Prop) : V86 a0 a1 w R = FnP CC { keep := fun | 2 => [4, 9] | _ => [], lin := fun _ => [] } Tryz.f86 [a0, a1] w R := by kernel_rfl
theorem call86 {a0 a1 : Value} {w : World} {R : Value → World → Prop} (h : V86 a0 a1 w R) : CallP CC 86 [a0, a1] w R :=
  call_of_vc CC.ok _ Tryz.func86 (V86_eq a0 a1 w R ▸ h)
def V120 (a0 a1 a2 : Value) (w : World) (R : Value → World → Prop) : Prop :=
  BoxP CC 22 a0 w fun x3 w_1 =>
  CallP CC 179 [a1] w_1 fun x8 w_2 =>
  CallP CC 179 [a2] w_2 fun x10 w_3 =>
  ∃ x11, some (Value.func (.func 180) #[] #[x3]) = some x11 ∧
  ∃ x12, buildV (τ 227) [(0, x8), (1, x10), (2, x11)] = some x12 ∧
  CallP CC 181 [x12] w_3 fun x13 w_4 =>
  R x13 w_4
theorem V120_eq (a0 a1 a2 : Value) (w : World) (R : Value → World → Prop) : V120 a0 a1 a2 w R = FnP CC { keep := fun _ => [], lin := fun _ => [] } Tryz.f120 [a0, a1, a2] w R := by kernel_rfl
theorem call120 {a0 a1 a2 : Value} {w : World} {R : Value → World → Prop} (h : V120 a0 a1 a2 w R) : CallP CC 120 [a0, a1, a2] w R :=
  call_of_vc CC.ok _ Tryz.func120 (V120_eq a0 a1 a2 w R ▸ h)
def V140 (a0 a1 : Value) (w : World) (R : Value → World → Prop) : Prop :=
  BoxP CC 22 a0 w fun x2 w_1 =>
  BoxP CC 22 a1 w_1 fun x3 w_2 =>
  LoadP CC 22 x2 w_2 fun x6 w_3 =>
  CallP CC 139 [x6] w_3 fun x7 w_4 =>
  AllocP CC 3 w_4 fun x5 w_5 =>
  StoreP CC 3 x5 x7 w_5 fun w_6 =>
  ∃ A8 A10 A13 A14 A15 A19 : Value → World → Prop,
  (Fw Grow w_6 fun z => (LoadP CC 22 x2 z (Gw Grow A8 z))) ∧
  (∀ v8 : Value, Fw Grow w_6 fun z => A8 v8 z → (Is (lenV (τ 22) v8))) ∧
  (∀ v8 : Value, Fw Grow w_6 fun z => (LoadP CC 22 x3 z (Gw Grow A10 z))) ∧
  (∀ v8 v10 : Value, Fw Grow w_6 fun z => A10 v10 z → (Is (lenV (τ 22) v10))) ∧
  (∀ v8 v10 : Value, Fw Grow w_6 fun z => A8 v8 z → A10 v10 z → (Is (maxV (gd (lenV (τ 22) v8)) (gd (lenV (τ 22) v10))))) ∧
  (∀ v8 v10 : Value, Fw Grow w_6 fun z => (LoadP CC 3 x5 z (Gw Grow A13 z))) ∧
  (∀ v8 v10 v13 : Value, Fw Grow w_6 fun z => (LoadP CC 22 x3 z (Gw Grow A14 z))) ∧
  (∀ v8 v10 v13 v14 : Value, Fw Grow w_6 fun z => A14 v14 z → (CallP CC 139 [v14] z (Gw Grow A15 z))) ∧
  (∀ v8 v10 v13 v14 v15 : Value, Fw Grow w_6 fun z => A13 v13 z → A14 v14 z → A15 v15 z → (Is (binV (.int .i64) .add v13 v15))) ∧
  (∀ v8 v10 v13 v14 v15 : Value, Fw Grow w_6 fun z => (Is (some (Value.func (.func 194) #[] #[x5, x2, x3])))) ∧
  (∀ v8 v10 v13 v14 v15 : Value, Fw Grow w_6 fun z => A8 v8 z → A10 v10 z → A13 v13 z → A14 v14 z → A15 v15 z → (Is (buildV (τ 227) [(0, (gd (maxV (gd (lenV (τ 22) v8)) (gd (lenV (τ 22) v10))))), (1, (gd (binV (.int .i64) .add v13 v15))), (2, (gd (some (Value.func (.func 194) #[] #[x5, x2, x3]))))]))) ∧
  (∀ v8 v10 v13 v14 v15 : Value, Fw Grow w_6 fun z => A8 v8 z → A10 v10 z → A13 v13 z → A14 v14 z → A15 v15 z → (CallP CC 181 [(gd (buildV (τ 227) [(0, (gd (maxV (gd (lenV (τ 22) v8)) (gd (lenV (τ 22) v10))))), (1, (gd (binV (.int .i64) .add v13 v15))), (2, (gd (some (Value.func (.func 194) #[] #[x5, x2, x3]))))]))] z (Gw Grow A19 z))) ∧
  ∀ v8 v10 v13 v14 v15 v19 : Value, ∀ (h : Nat → Value) (w_7 : World), Grow w_6 w_7 → A8 v8 w_7 → A10 v10 w_7 → A13 v13 w_7 → A14 v14 w_7 → A15 v15 w_7 → A19 v19 w_7 → 
  R v19 w_7
theorem V140_eq (a0 a1 : Value) (w : World) (R : Value → World → Prop) : V140 a0 a1 w R = FnP CC { keep := fun _ => [], lin := fun _ => [] } Tryz.f140 [a0, a1] w R := by kernel_rfl
theorem call140 {a0 a1 : Value} {w : World} {R : Value → World → Prop} (h : V140 a0 a1 w R) : CallP CC 140 [a0, a1] w R :=
  call_of_vc CC.ok _ Tryz.func140 (V140_eq a0 a1 w R ▸ h)
def V141 (a0 : Value) (w : World) (R : Value → World → Prop) : Prop :=
  CallP CC 179 [a0] w fun x5 w_1 =>
  ∃ (I : Value → Value → World → Prop) (μ : Value → Value → World → Nat), I (.slice none 0 0) (.int .i64 0) w_1 ∧
  ∀ y2 : Value, ∀ y6 : Value, ∀ (h : Nat → Value) (w_2 : World), I y2 y6 w_2 →
    ∃ x7, binV (.int .i64) .lss y6 x5 = some x7 ∧
    CondP x7 (
      CallP CC 179 [a0] w_2 fun x11 w_3 =>
      CallP CC 52 [x11, y6] w_3 fun x13 w_4 =>
      LitP CC 22 1 [(0, x13)] w_4 fun x14 w_5 =>
      AppendP CC #[22, 22] 22 [y2, x14] w_5 fun x15 w_6 =>
      ∃ x16, binV (.int .i64) .add y6 (.int .i64 1) = some x16 ∧
      I x15 x16 w_6 ∧ μ x15 x16 w_6 < μ y2 y6 w_2) (
      R y2 w_2)
theorem V141_eq (a0 : Value) (w : World) (R : Value → World → Prop) : V141 a0 w R = FnP CC { keep := fun | 2 => [2, 6] | _ => [], lin := fun _ => [] } Tryz.f141 [a0] w R := by kernel_rfl
theorem call141 {a0 : Value} {w : World} {R : Value → World → Prop} (h : V141 a0 w R) : CallP CC 141 [a0] w R :=
  call_of_vc CC.ok _ Tryz.func141 (V141_eq a0 w R ▸ h)
def V179 (a0 : Value) (w : World) (R : Value → World → Prop) : Prop :=
  ∃ x4, maxV a0 (.int .i64 0) = some x4 ∧
  ∃ x5, minV x4 (.int .i64 1024) = some x5 ∧
  R x5 w
theorem V179_eq (a0 : Value) (w : World) (R : Value → World → Prop) : V179 a0 w R = FnP CC { keep := fun _ => [], lin := fun _ => [] } Tryz.f179 [a0] w R := by kernel_rfl
theorem call179 {a0 : Value} {w : World} {R : Value → World → Prop} (h : V179 a0 w R) : CallP CC 179 [a0] w R :=
  call_of_vc CC.ok _ Tryz.func179 (V179_eq a0 w R ▸ h)
def V180 (a0 a1 a2 : Value) (w : World) (R : Value → World → Prop) : Prop :=
  AllocP CC 30 w fun x5 w_1 =>
  LoadP CC 22 a2 w_1 fun x6 w_2 =>
  CallP CC 178 [x6, a0, a1] w_2 fun x9 w_3 =>
  StoreP CC 30 x5 x9 w_3 fun w_4 =>
  ∃ ad r, x5 = .pointer (some ad) ∧ (loadVar 30 ad).run CC.P w_4 = .ok r w_4 ∧
  R r w_4
theorem V180_eq (a0 a1 a2 : Value) (w : World) (R : Value → World → Prop) : V180 a0 a1 a2 w R = FnP CC { keep := fun _ => [], lin := fun _ => [] } Tryz.f180 [a0, a1, a2] w R := by kernel_rfl
theorem call180 {a0 a1 a2 : Value} {w : World} {R : Value → World → Prop} (h : V180 a0 a1 a2 w R) : CallP CC 180 [a0, a1, a2] w R :=
  call_of_vc CC.ok _ Tryz.func180 (V180_eq a0 a1 a2 w R ▸ h)
def V181 (a0 : Value) (w : World) (R : Value → World → Prop) : Prop :=
  BoxP CC 227 a0 w fun x1 w_1 =>
  ∃ x7, fieldAddrV (τ 227) 0 x1 = some x7 ∧
  LoadP CC 3 x7 w_1 fun x8 w_2 =>
  ∃ (I : Value → Value → World → Prop) (μ : Value → Value → World → Nat), I (.slice none 0 0) (.int .i64 0) w_2 ∧
  ∀ y3 : Value, ∀ y9 : Value, ∀ (h : Nat → Value) (w_3 : World), I y3 y9 w_3 →
    ∃ x10, binV (.int .i64) .lss y9 x8 = some x10 ∧
    CondP x10 (
      ∃ x12, fieldAddrV (τ 227) 1 x1 = some x12 ∧
      LoadP CC 3 x12 w_3 fun x13 w_4 =>
      MakeP CC 23 x13 x13 w_4 fun x14 w_5 =>
      ∃ x16, lenV (τ 23) x14 = some x16 ∧
      ∃ (I_1 : Value → World → Prop) (μ_1 : Value → World → Nat), I_1 (.int .i64 0) w_5 ∧
      ∀ y17 : Value, ∀ (h_1 : Nat → Value) (w_6 : World), I_1 y17 w_6 →
        ∃ x18, binV (.int .i64) .lss y17 x16 = some x18 ∧
        CondP x18 (
          ∃ x22, fieldAddrV (τ 227) 2 x1 = some x22 ∧
          LoadP CC 225 x22 w_6 fun x23 w_7 =>
          callV CC x23 [y9, y17] w_7 fun x26 w_8 =>
          CallP CC 87 [x26] w_8 fun x27 w_9 =>
          ∃ x28, indexAddrV (τ 23) x14 y17 = some x28 ∧
          StoreP CC 30 x28 x27 w_9 fun w_10 =>
          ∃ x29, binV (.int .i64) .add y17 (.int .i64 1) = some x29 ∧
          I_1 x29 w_10 ∧ μ_1 x29 w_10 < μ_1 y17 w_6) (
          LitP CC 22 1 [(0, x14)] w_6 fun x32 w_11 =>
          AppendP CC #[22, 22] 22 [y3, x32] w_11 fun x33 w_12 =>
          ∃ x34, binV (.int .i64) .add y9 (.int .i64 1) = some x34 ∧
          I x33 x34 w_12 ∧ μ x33 x34 w_12 < μ y3 y9 w_3)) (
      R y3 w_3)
theorem V181_eq (a0 : Value) (w : World) (R : Value → World → Prop) : V181 a0 w R = FnP CC { keep := fun | 3 => [3, 9] | 7 => [17] | _ => [], lin := fun _ => [] } Tryz.f181 [a0] w R := by kernel_rfl
theorem call181 {a0 : Value} {w : World} {R : Value → World → Prop} (h : V181 a0 w R) : CallP CC 181 [a0] w R :=
  call_of_vc CC.ok _ Tryz.func181 (V181_eq a0 w R ▸ h)
def V194 (a0 a1 a2 a3 a4 : Value) (w : World) (R : Value → World → Prop) : Prop :=
  AllocP CC 30 w fun x7 w_1 =>
  LoadP CC 3 a2 w_1 fun x9 w_2 =>
  ∃ x10, binV (.int .i64) .lss a1 x9 = some x10 ∧
  CondP x10 (
    LoadP CC 22 a3 w_2 fun x11 w_3 =>
    CallP CC 178 [x11, a0, a1] w_3 fun x14 w_4 =>
    StoreP CC 30 x7 x14 w_4 fun w_5 =>
    ∃ ad r, x7 = .pointer (some ad) ∧ (loadVar 30 ad).run CC.P w_5 = .ok r w_5 ∧
    R r w_5) (
    LoadP CC 22 a4 w_2 fun x15 w_6 =>
    LoadP CC 3 a2 w_6 fun x18 w_7 =>
    ∃ x19, binV (.int .i64) .sub a1 x18 = some x19 ∧
    CallP CC 178 [x15, a0, x19] w_7 fun x20 w_8 =>
    StoreP CC 30 x7 x20 w_8 fun w_9 =>
    ∃ ad_1 r_1, x7 = .pointer (some ad_1) ∧ (loadVar 30 ad_1).run CC.P w_9 = .ok r_1 w_9 ∧
    R r_1 w_9)
theorem V194_eq (a0 a1 a2 a3 a4 : Value) (w : World) (R : Value → World → Prop) : V194 a0 a1 a2 a3 a4 w R = FnP CC { keep := fun _ => [], lin := fun _ => [] } Tryz.f194 [a0, a1, a2, a3, a4] w R := by kernel_rfl
theorem call194 {a0 a1 a2 a3 a4 : Value} {w : World} {R : Value → World → Prop} (h : V194 a0 a1 a2 a3 a4 w R) : CallP CC 194 [a0, a1, a2, a3, a4] w R :=
  call_of_vc CC.ok _ Tryz.func194 (V194_eq a0 a1 a2 a3 a4 w R ▸ h)
def V97 (a0 : Value) (w : World) (R : Value → World → Prop) : Prop :=
  ∃ x6, lenV (τ 200) a0 = some x6 ∧
  ∃ (I : Value → Value → World → Prop) (μ : Value → Value → World → Nat), I (.slice none 0 0) (.int .i64 0) w ∧
  ∀ y2 : Value, ∀ y7 : Value, ∀ (h : Nat → Value) (w_1 : World), I y2 y7 w_1 →
    ∃ x8, binV (.int .i64) .lss y7 x6 = some x8 ∧
    CondP x8 (
      ∃ x9, indexAddrV (τ 200) a0 y7 = some x9 ∧
      LoadP CC 102 x9 w_1 fun x10 w_2 =>
      CallP CC 73 [x10] w_2 fun x13 w_3 =>
      LitP CC 22 1 [(0, x13)] w_3 fun x14 w_4 =>
      AppendP CC #[22, 22] 22 [y2, x14] w_4 fun x15 w_5 =>
      ∃ x16, binV (.int .i64) .add y7 (.int .i64 1) = some x16 ∧
      I x15 x16 w_5 ∧ μ x15 x16 w_5 < μ y2 y7 w_1) (
      R y2 w_1)
theorem V97_eq (a0 : Value) (w : World) (R : Value → World → Prop) : V97 a0 w R = FnP CC { keep := fun | 2 => [2, 7] | _ => [], lin := fun _ => [] } Tryz.f97 [a0] w R := by kernel_rfl
theorem call97 {a0 : Value} {w : World} {R : Value → World → Prop} (h : V97 a0 w R) : CallP CC 97 [a0] w R :=
  call_of_vc CC.ok _ Tryz.func97 (V97_eq a0 w R ▸ h)
def V137 (a0 : Value) (w : World) (R : Value → World → Prop) : Prop :=
  BoxP CC 25 a0 w fun x1 w_1 =>
  AllocP CC 180 w_1 fun x2 w_2 =>
  ∃ x3, fieldAddrV (τ 25) 0 x1 = some x3 ∧
  LoadP CC 3 x3 w_2 fun x4 w_3 =>
  ∃ x5, fieldAddrV (τ 25) 1 x1 = some x5 ∧
  LoadP CC 22 x5 w_3 fun x6 w_4 =>
  ∃ x7, lenV (τ 22) x6 = some x7 ∧
  ∃ x8, fieldAddrV (τ 25) 2 x1 = some x8 ∧
  LoadP CC 22 x8 w_4 fun x9 w_5 =>
  ∃ x10, lenV (τ 22) x9 = some x10 ∧
  ∃ x11, fieldAddrV (τ 25) 3 x1 = some x11 ∧
  LoadP CC 23 x11 w_5 fun x12 w_6 =>
  ∃ x13, lenV (τ 23) x12 = some x13 ∧
  ∃ x14, buildV (τ 180) [(0, x4), (1, x7), (2, x10), (3, x13)] = some x14 ∧
  StoreP CC 180 x2 x14 w_6 fun w_7 =>
  ∃ ad r, x2 = .pointer (some ad) ∧ (loadVar 180 ad).run CC.P w_7 = .ok r w_7 ∧
  R r w_7
theorem V137_eq (a0 : Value) (w : World) (R : Value → World → Prop) : V137 a0 w R = FnP CC { keep := fun _ => [], lin := fun _ => [] } Tryz.f137 [a0] w R := by kernel_rfl
theorem call137 {a0 : Value} {w : World} {R : Value → World → Prop} (h : V137 a0 w R) : CallP CC 137 [a0] w R :=
  call_of_vc CC.ok _ Tryz.func137 (V137_eq a0 w R ▸ h)
def V138 (a0 : Value) (w : World) (R : Value → World → Prop) : Prop :=
  BoxP CC 180 a0 w fun x1 w_1 =>
  AllocP CC 180 w_1 fun x2 w_2 =>
  ∃ x4, fieldAddrV (τ 180) 2 x1 = some x4 ∧
  LoadP CC 3 x4 w_2 fun x5 w_3 =>
  ∃ x6, minV x5 (.int .i64 128) = some x6 ∧
  ∃ x7, fieldAddrV (τ 180) 0 x1 = some x7 ∧
  LoadP CC 3 x7 w_3 fun x8 w_4 =>
  ∃ x9, maxV x8 (.int .i64 0) = some x9 ∧
  ∃ x10, minV x9 (.int .i64 64) = some x10 ∧
  ∃ x11, fieldAddrV (τ 180) 1 x1 = some x11 ∧
  LoadP CC 3 x11 w_4 fun x12 w_5 =>
  ∃ x13, maxV x12 (.int .i64 1) = some x13 ∧
  ∃ x14, minV x13 (.int .i64 4) = some x14 ∧
  ∃ x17, buildV (τ 180) [(0, x10), (1, x14), (2, x6), (3, x6)] = some x17 ∧
  StoreP CC 180 x2 x17 w_5 fun w_6 =>
  ∃ ad r, x2 = .pointer (some ad) ∧ (loadVar 180 ad).run CC.P w_6 = .ok r w_6 ∧
  R r w_6
theorem V138_eq (a0 : Value) (w : World) (R : Value → World → Prop) : V138 a0 w R = FnP CC { keep := fun _ => [], lin := fun _ => [] } Tryz.f138 [a0] w R := by kernel_rfl
theorem call138 {a0 : Value} {w : World} {R : Value → World → Prop} (h : V138 a0 w R) : CallP CC 138 [a0] w R :=
  call_of_vc CC.ok _ Tryz.func138 (V138_eq a0 w R ▸ h)
def V28 (a0 a1 : Value) (w : World) (R : Value → World → Prop) : Prop :=
  BoxP CC 25 a0 w fun x2 w_1 =>
  ∃ x5, fieldAddrV (τ 25) 1 x2 = some x5 ∧
  LoadP CC 22 x5 w_1 fun x6 w_2 =>
  CallP CC 86 [x6, a1] w_2 fun x8 w_3 =>
  R x8 w_3
theorem V28_eq (a0 a1 : Value) (w : World) (R : Value → World → Prop) : V28 a0 a1 w R = FnP CC { keep := fun _ => [], lin := fun _ => [] } Tryz.f28 [a0, a1] w R := by kernel_rfl
theorem call28 {a0 a1 : Value} {w : World} {R : Value → World → Prop} (h : V28 a0 a1 w R) : CallP CC 28 [a0, a1] w R :=
  call_of_vc CC.ok _ Tryz.func28 (V28_eq a0 a1 w R ▸ h)
def V29 (a0 a1 a2 : Value) (w : World) (R : Value → World → Prop) : Prop :=
  BoxP CC 25 a0 w fun x3 w_1 =>
  ∃ A8 A10 A11 A13 A14 : Value → World → Prop,
  (Fw Grow w_1 fun z => (LoadP CC 25 x3 z (Gw Grow A8 z))) ∧
  (∀ v8 : Value, Fw Grow w_1 fun z => A8 v8 z → (CallP CC 28 [v8, a1] z (Gw Grow A10 z))) ∧
  (∀ v8 v10 : Value, Fw Grow w_1 fun z => (LoadP CC 25 x3 z (Gw Grow A11 z))) ∧
  (∀ v8 v10 v11 : Value, Fw Grow w_1 fun z => A8 v8 z → A10 v10 z → A11 v11 z → (CallP CC 28 [v11, a2] z (Gw Grow A13 z))) ∧
  (∀ v8 v10 v11 v13 : Value, Fw Grow w_1 fun z => A8 v8 z → A10 v10 z → A11 v11 z → A13 v13 z → (CallP CC 38 [v10, v13] z (Gw Grow A14 z))) ∧
  ∀ v8 v10 v11 v13 v14 : Value, ∀ (h : Nat → Value) (w_2 : World), Grow w_1 w_2 → A8 v8 w_2 → A10 v10 w_2 → A11 v11 w_2 → A13 v13 w_2 → A14 v14 w_2 → 
  ∃ x16, binV (.int .i64) .neq v14 (.int .i64 0) = some x16 ∧
  CondP x16 (
    R v14 w_2) (
    CallP CC 38 [a2, a1] w_2 fun x20 w_3 =>
    R x20 w_3)
theorem V29_eq (a0 a1 a2 : Value) (w : World) (R : Value → World → Prop) : V29 a0 a1 a2 w R = FnP CC { keep := fun _ => [], lin := fun _ => [] } Tryz.f29 [a0, a1, a2] w R := by kernel_rfl
theorem call29 {a0 a1 a2 : Value} {w : World} {R : Value → World → Prop} (h : V29 a0 a1 a2 w R) : CallP CC 29 [a0, a1, a2] w R :=
  call_of_vc CC.ok _ Tryz.func29 (V29_eq a0 a1 a2 w R ▸ h)
def V77 (a0 : Value) (w : World) (R : Value → World → Prop) : Prop :=
  BoxP CC 25 a0 w fun x1 w_1 =>
  LoadP CC 25 x1 w_1 fun x4 w_2 =>
  CallP CC 137 [x4] w_2 fun x5 w_3 =>
  AllocP CC 180 w_3 fun x3 w_4 =>
  StoreP CC 180 x3 x5 w_4 fun w_5 =>
  ∃ A6 A7 A8 A9 A12 A13 A15 A20 A21 A23 : Value → World → Prop,
  (Fw Grow w_5 fun z => (LoadP CC 180 x3 z (Gw Grow A6 z))) ∧
  (∀ v6 : Value, Fw Grow w_5 fun z => (LoadP CC 180 x3 z (Gw Grow A7 z))) ∧
  (∀ v6 v7 : Value, Fw Grow w_5 fun z => A7 v7 z → (CallP CC 138 [v7] z (Gw Grow A8 z))) ∧
  (∀ v6 v7 v8 : Value, Fw Grow w_5 fun z => A6 v6 z → A7 v7 z → A8 v8 z → (EqP CC .eql 180 (.tmp 6) (.tmp 8) v6 v8 z (Gw Grow A9 z))) ∧
  (∀ v6 v7 v8 v9 : Value, Fw Grow w_5 fun z => A6 v6 z → A7 v7 z → A8 v8 z → A9 v9 z → (v9 = .bool true → (Is (fieldAddrV (τ 25) 1 x1)))) ∧
  (∀ v6 v7 v8 v9 : Value, Fw Grow w_5 fun z => A6 v6 z → A7 v7 z → A8 v8 z → A9 v9 z → (v9 = .bool true → (LoadP CC 22 (gd (fieldAddrV (τ 25) 1 x1)) z (Gw Grow A12 z)))) ∧
  (∀ v6 v7 v8 v9 v12 : Value, Fw Grow w_5 fun z => A6 v6 z → A7 v7 z → A8 v8 z → A9 v9 z → (v9 = .bool true → A12 v12 z) → (v9 = .bool true → (CallP CC 139 [v12] z (Gw Grow A13 z)))) ∧
  (∀ v6 v7 v8 v9 v12 v13 : Value, Fw Grow w_5 fun z => A6 v6 z → A7 v7 z → A8 v8 z → A9 v9 z → (v9 = .bool true → (Is (fieldAddrV (τ 25) 0 x1)))) ∧
  (∀ v6 v7 v8 v9 v12 v13 : Value, Fw Grow w_5 fun z => A6 v6 z → A7 v7 z → A8 v8 z → A9 v9 z → (v9 = .bool true → (LoadP CC 3 (gd (fieldAddrV (τ 25) 0 x1)) z (Gw Grow A15 z)))) ∧
  (∀ v6 v7 v8 v9 v12 v13 v15 : Value, Fw Grow w_5 fun z => A6 v6 z → A7 v7 z → A8 v8 z → A9 v9 z → (v9 = .bool true → A12 v12 z) → (v9 = .bool true → A13 v13 z) → (v9 = .bool true → A15 v15 z) → (v9 = .bool true → (Is (binV (.int .i64) .leq v13 v15)))) ∧
  (∀ v6 v7 v8 v9 v12 v13 v15 : Value, Fw Grow w_5 fun z => A6 v6 z → A7 v7 z → A8 v8 z → A9 v9 z → (v9 = .bool true → A12 v12 z) → (v9 = .bool true → A13 v13 z) → (v9 = .bool true → A15 v15 z) → (Is (pickV v9 (gd (binV (.int .i64) .leq v13 v15)) (.bool false)))) ∧
  (∀ v6 v7 v8 v9 v12 v13 v15 : Value, Fw Grow w_5 fun z => A6 v6 z → A7 v7 z → A8 v8 z → A9 v9 z → (v9 = .bool true → A12 v12 z) → (v9 = .bool true → A13 v13 z) → (v9 = .bool true → A15 v15 z) → ((gd (pickV v9 (gd (binV (.int .i64) .leq v13 v15)) (.bool false))) = .bool true → (Is (fieldAddrV (τ 25) 2 x1)))) ∧
  (∀ v6 v7 v8 v9 v12 v13 v15 : Value, Fw Grow w_5 fun z => A6 v6 z → A7 v7 z → A8 v8 z → A9 v9 z → (v9 = .bool true → A12 v12 z) → (v9 = .bool true → A13 v13 z) → (v9 = .bool true → A15 v15 z) → ((gd (pickV v9 (gd (binV (.int .i64) .leq v13 v15)) (.bool false))) = .bool true → (LoadP CC 22 (gd (fieldAddrV (τ 25) 2 x1)) z (Gw Grow A20 z)))) ∧
  (∀ v6 v7 v8 v9 v12 v13 v15 v20 : Value, Fw Grow w_5 fun z => A6 v6 z → A7 v7 z → A8 v8 z → A9 v9 z → (v9 = .bool true → A12 v12 z) → (v9 = .bool true → A13 v13 z) → (v9 = .bool true → A15 v15 z) → ((gd (pickV v9 (gd (binV (.int .i64) .leq v13 v15)) (.bool false))) = .bool true → A20 v20 z) → ((gd (pickV v9 (gd (binV (.int .i64) .leq v13 v15)) (.bool false))) = .bool true → (CallP CC 139 [v20] z (Gw Grow A21 z)))) ∧
  (∀ v6 v7 v8 v9 v12 v13 v15 v20 v21 : Value, Fw Grow w_5 fun z => A6 v6 z → A7 v7 z → A8 v8 z → A9 v9 z → (v9 = .bool true → A12 v12 z) → (v9 = .bool true → A13 v13 z) → (v9 = .bool true → A15 v15 z) → ((gd (pickV v9 (gd (binV (.int .i64) .leq v13 v15)) (.bool false))) = .bool true → (Is (fieldAddrV (τ 25) 0 x1)))) ∧
  (∀ v6 v7 v8 v9 v12 v13 v15 v20 v21 : Value, Fw Grow w_5 fun z => A6 v6 z → A7 v7 z → A8 v8 z → A9 v9 z → (v9 = .bool true → A12 v12 z) → (v9 = .bool true → A13 v13 z) → (v9 = .bool true → A15 v15 z) → ((gd (pickV v9 (gd (binV (.int .i64) .leq v13 v15)) (.bool false))) = .bool true → (LoadP CC 3 (gd (fieldAddrV (τ 25) 0 x1)) z (Gw Grow A23 z)))) ∧
  (∀ v6 v7 v8 v9 v12 v13 v15 v20 v21 v23 : Value, Fw Grow w_5 fun z => A6 v6 z → A7 v7 z → A8 v8 z → A9 v9 z → (v9 = .bool true → A12 v12 z) → (v9 = .bool true → A13 v13 z) → (v9 = .bool true → A15 v15 z) → ((gd (pickV v9 (gd (binV (.int .i64) .leq v13 v15)) (.bool false))) = .bool true → A20 v20 z) → ((gd (pickV v9 (gd (binV (.int .i64) .leq v13 v15)) (.bool false))) = .bool true → A21 v21 z) → ((gd (pickV v9 (gd (binV (.int .i64) .leq v13 v15)) (.bool false))) = .bool true → A23 v23 z) → ((gd (pickV v9 (gd (binV (.int .i64) .leq v13 v15)) (.bool false))) = .bool true → (Is (binV (.int .i64) .leq v21 v23)))) ∧
  (∀ v6 v7 v8 v9 v12 v13 v15 v20 v21 v23 : Value, Fw Grow w_5 fun z => A6 v6 z → A7 v7 z → A8 v8 z → A9 v9 z → (v9 = .bool true → A12 v12 z) → (v9 = .bool true → A13 v13 z) → (v9 = .bool true → A15 v15 z) → ((gd (pickV v9 (gd (binV (.int .i64) .leq v13 v15)) (.bool false))) = .bool true → A20 v20 z) → ((gd (pickV v9 (gd (binV (.int .i64) .leq v13 v15)) (.bool false))) = .bool true → A21 v21 z) → ((gd (pickV v9 (gd (binV (.int .i64) .leq v13 v15)) (.bool false))) = .bool true → A23 v23 z) → (Is (pickV (gd (pickV v9 (gd (binV (.int .i64) .leq v13 v15)) (.bool false))) (gd (binV (.int .i64) .leq v21 v23)) (.bool false)))) ∧
  ∀ v6 v7 v8 v9 v12 v13 v15 v20 v21 v23 : Value, ∀ (h : Nat → Value) (w_6 : World), Grow w_5 w_6 → A6 v6 w_6 → A7 v7 w_6 → A8 v8 w_6 → A9 v9 w_6 → (v9 = .bool true → A12 v12 w_6) → (v9 = .bool true → A13 v13 w_6) → (v9 = .bool true → A15 v15 w_6) → ((gd (pickV v9 (gd (binV (.int .i64) .leq v13 v15)) (.bool false))) = .bool true → A20 v20 w_6) → ((gd (pickV v9 (gd (binV (.int .i64) .leq v13 v15)) (.bool false))) = .bool true → A21 v21 w_6) → ((gd (pickV v9 (gd (binV (.int .i64) .leq v13 v15)) (.bool false))) = .bool true → A23 v23 w_6) → 
  R (gd (pickV (gd (pickV v9 (gd (binV (.int .i64) .leq v13 v15)) (.bool false))) (gd (binV (.int .i64) .leq v21 v23)) (.bool false))) w_6
theorem V77_eq (a0 : Value) (w : World) (R : Value → World → Prop) : V77 a0 w R = FnP CC { keep := fun _ => [], lin := fun _ => [] } Tryz.f77 [a0] w R := by kernel_rfl
theorem call77 {a0 : Value} {w : World} {R : Value → World → Prop} (h : V77 a0 w R) : CallP CC 77 [a0] w R :=
  call_of_vc CC.ok _ Tryz.func77 (V77_eq a0 w R ▸ h)
def V160 (a0 : Value) (w : World) (R : Value → World → Prop) : Prop :=
  BoxP CC 25 a0 w fun x1 w_1 =>
  ∃ x3, some (Value.func (.func 200) #[] #[x1]) = some x3 ∧
  R x3 w_1
theorem V160_eq (a0 : Value) (w : World) (R : Value → World → Prop) : V160 a0 w R = FnP CC { keep := fun _ => [], lin := fun _ => [] } Tryz.f160 [a0] w R := by kernel_rfl
theorem call160 {a0 : Value} {w : World} {R : Value → World → Prop} (h : V160 a0 w R) : CallP CC 160 [a0] w R :=
  call_of_vc CC.ok _ Tryz.func160 (V160_eq a0 w R ▸ h)
def V200 (y : Nat) (a0 a1 : Value) (w : World) (R : Value → World → Prop) : Prop :=
  ∃ x6, fieldAddrV (τ 25) 2 a1 = some x6 ∧
  LoadP (CY y) 22 x6 w fun x7 w_1 =>
  ∃ x8, lenV (τ 22) x7 = some x8 ∧
  ∃ (I : Value → World → Prop) (μ : Value → World → Nat), I (.int .i64 0) w_1 ∧
  ∀ y9 : Value, ∀ (h : Nat → Value) (w_2 : World), I y9 w_2 →
    ∃ x10, binV (.int .i64) .lss y9 x8 = some x10 ∧
    CondP x10 (
      ∃ x12, indexAddrV (τ 22) x7 y9 = some x12 ∧
      LoadP (CY y) 23 x12 w_2 fun x13 w_3 =>
      AllocP (CY y) 30 w_3 fun x5 w_4 =>
      ∃ x15, fieldAddrV (τ 25) 3 a1 = some x15 ∧
      LoadP (CY y) 23 x15 w_4 fun x16 w_5 =>
      ∃ x17, lenV (τ 23) x16 = some x17 ∧
      ∃ x18, binV (.int .i64) .lss y9 x17 = some x18 ∧
      CondP x18 (
        ∃ x19, fieldAddrV (τ 25) 3 a1 = some x19 ∧
        LoadP (CY y) 23 x19 w_5 fun x20 w_6 =>
        ∃ x22, indexAddrV (τ 23) x20 y9 = some x22 ∧
        LoadP (CY y) 30 x22 w_6 fun x23 w_7 =>
        StoreP (CY y) 30 x5 x23 w_7 fun w_8 =>
        LoadP (CY y) 30 x5 w_8 fun x26 w_9 =>
        callV (CY y) a0 [x13, x26] w_9 fun x27 w_10 =>
        ∃ x28, unV .not x27 = some x28 ∧
        CondP x28 (
          R (.tuple #[]) w_10) (
          ∃ x29, binV (.int .i64) .add y9 (.int .i64 1) = some x29 ∧
          I x29 w_10 ∧ μ x29 w_10 < μ y9 w_2)) (
        LoadP (CY y) 30 x5 w_5 fun x26_1 w_11 =>
        callV (CY y) a0 [x13, x26_1] w_11 fun x27_1 w_12 =>
        ∃ x28_1, unV .not x27_1 = some x28_1 ∧
        CondP x28_1 (
          R (.tuple #[]) w_12) (
          ∃ x29_1, binV (.int .i64) .add y9 (.int .i64 1) = some x29_1 ∧
          I x29_1 w_12 ∧ μ x29_1 w_12 < μ y9 w_2))) (
      R (.tuple #[]) w_2)
theorem V200_eq (y : Nat) (a0 a1 : Value) (w : World) (R : Value → World → Prop) : V200 y a0 a1 w R = FnP (CY y) { keep := fun | 1 => [9] | _ => [], lin := fun _ => [] } Tryz.f200 [a0, a1] w R := by kernel_rfl
theorem call200 {y : Nat} {a0 a1 : Value} {w : World} {R : Value → World → Prop} (h : V200 y a0 a1 w R) : CallP (CY y) 200 [a0, a1] w R :=
  call_of_vc (CY.ok y) _ Tryz.func200 (V200_eq y a0 a1 w R ▸ h)
def V35 (a0 a1 : Value) (w : World) (R : Value → World → Prop) : Prop :=
  BoxP CC 25 a0 w fun x2 w_1 =>
  ∃ A10 A11 A16 : Value → World → Prop,
  (Fw Grow w_1 fun z => (LoadP CC 25 x2 z (Gw Grow A10 z))) ∧
  (∀ v10 : Value, Fw Grow w_1 fun z => A10 v10 z → (CallP CC 77 [v10] z (Gw Grow A11 z))) ∧
  (∀ v10 v11 : Value, Fw Grow w_1 fun z => A10 v10 z → A11 v11 z → (v11 = .bool true → (Is (lenV (τ 23) a1)))) ∧
  (∀ v10 v11 : Value, Fw Grow w_1 fun z => A10 v10 z → A11 v11 z → (v11 = .bool true → (Is (fieldAddrV (τ 25) 0 x2)))) ∧
  (∀ v10 v11 : Value, Fw Grow w_1 fun z => A10 v10 z → A11 v11 z → (v11 = .bool true → (LoadP CC 3 (gd (fieldAddrV (τ 25) 0 x2)) z (Gw Grow A16 z)))) ∧
  (∀ v10 v11 v16 : Value, Fw Grow w_1 fun z => A10 v10 z → A11 v11 z → (v11 = .bool true → A16 v16 z) → (v11 = .bool true → (Is (binV (.int .i64) .leq (gd (lenV (τ 23) a1)) v16)))) ∧
  (∀ v10 v11 v16 : Value, Fw Grow w_1 fun z => A10 v10 z → A11 v11 z → (v11 = .bool true → A16 v16 z) → (Is (pickV v11 (gd (binV (.int .i64) .leq (gd (lenV (τ 23) a1)) v16)) (.bool false)))) ∧
  ∀ v10 v11 v16 : Value, ∀ (h : Nat → Value) (w_2 : World), Grow w_1 w_2 → A10 v10 w_2 → A11 v11 w_2 → (v11 = .bool true → A16 v16 w_2) → 
  LoadP CC 25 x2 w_2 fun x20 w_3 =>
  CallP CC 94 [x20, a1] w_3 fun x22 w_4 =>
  LitP CC 22 2 [(0, a1), (1, x22)] w_4 fun x23 w_5 =>
  ∃ x24, lenV (τ 22) x23 = some x24 ∧
  ∃ (I : Value → Value → World → Prop) (μ : Value → Value → World → Nat), I (gd (pickV v11 (gd (binV (.int .i64) .leq (gd (lenV (τ 23) a1)) v16)) (.bool false))) (.int .i64 0) w_5 ∧
  ∀ y5 : Value, ∀ y25 : Value, ∀ (h_1 : Nat → Value) (w_6 : World), I y5 y25 w_6 →
    ∃ x26, binV (.int .i64) .lss y25 x24 = some x26 ∧
    CondP x26 (
      ∃ x27, indexAddrV (τ 22) x23 y25 = some x27 ∧
      LoadP CC 23 x27 w_6 fun x28 w_7 =>
      CallP CC 95 [(.slice none 0 0), x28] w_7 fun x31 w_8 =>
      ∃ x32, extrV x31 0 = some x32 ∧
      ∃ x33, extrV x31 1 = some x33 ∧
      CondP x33 (
        R (.bool false) w_8) (
        ∃ x35, binV (.int .i64) .add y25 (.int .i64 1) = some x35 ∧
        I y5 x35 w_8 ∧ μ y5 x35 w_8 < μ y5 y25 w_6)) (
      R y5 w_6)
theorem V35_eq (a0 a1 : Value) (w : World) (R : Value → World → Prop) : V35 a0 a1 w R = FnP CC { keep := fun | 3 => [5, 25] | _ => [], lin := fun _ => [] } Tryz.f35 [a0, a1] w R := by kernel_rfl
theorem call35 {a0 a1 : Value} {w : World} {R : Value → World → Prop} (h : V35 a0 a1 w R) : CallP CC 35 [a0, a1] w R :=
  call_of_vc CC.ok _ Tryz.func35 (V35_eq a0 a1 w R ▸ h)
def V94 (a0 a1 : Value) (w : World) (R : Value → World → Prop) : Prop :=
  BoxP CC 25 a0 w fun x2 w_1 =>
  BoxP CC 23 a1 w_1 fun x3 w_2 =>
  AllocP CC 23 w_2 fun x4 w_3 =>
  LoadP CC 25 x2 w_3 fun x7 w_4 =>
  CallP CC 160 [x7] w_4 fun x8 w_5 =>
  ∃ f cap, x8 = .func (.func f) #[] cap ∧ hasB f = true ∧ ∃ Stay N Args, Iter CC f cap.toList w_5 Stay N Args ∧ (∀ k w' vs, Args k w' vs → vs.length = 2) ∧ ∃ (I : Nat → World → Prop) (J : Jmp → World → Prop),
  (∀ w', Vc.Sys w_5.heap.size w_5 w' → I 0 w') ∧ (∀ k w', I k w' → Stay k w') ∧
  (∀ k, k < N → ∀ x9 : Value, ∀ x10 : Value, ∀ w_6, I k w_6 → Args k w_6 [x9, x10] →
    AllocP CC 30 w_6 fun x6 w_10 =>
    StoreP CC 30 x6 x10 w_10 fun w_11 =>
    ∀ w_7, Vc.Sys w_5.heap.size w_11 w_7 →
    ∃ (T : Nat × World → Nat × World → Prop) (L : List Value → World → Prop), Hg T ∧ Ht T ∧ Hl L w_7 ∧
    ∃ A11 A12 A14 A15 A16 A17 A18 As8 : Value → Nat × World → Prop,
    (Fl T w_7 0 fun n z => (LoadP CC 23 x4 z (Gk T A11 n z))) ∧
    (∀ v11 : Value, Fl T w_7 0 fun n z => (LoadP CC 30 x6 z (Gk T A12 n z))) ∧
    (∀ v11 v12 : Value, Fl T w_7 0 fun n z => (LoadP CC 23 x3 z (Gk T A14 n z))) ∧
    (∀ v11 v12 v14 : Value, Fl T w_7 0 fun n z => A14 v14 (n, z) → (CallP CC 34 [x9, v14] z (Gk T A15 n z))) ∧
    (∀ v11 v12 v14 v15 : Value, Fl T w_7 0 fun n z => A12 v12 (n, z) → A14 v14 (n, z) → A15 v15 (n, z) → (CallP CC 129 [v12, v15] z (Gk T A16 n z))) ∧
    (∀ v11 v12 v14 v15 v16 : Value, Fl T w_7 0 fun n z => A12 v12 (n, z) → A14 v14 (n, z) → A15 v15 (n, z) → A16 v16 (n, z) → (LitP CC 23 1 [(0, v16)] z (Gk T A17 n z))) ∧
    (∀ v11 v12 v14 v15 v16 v17 : Value, Fl T w_7 1 fun n z => n = 0 → L [] z → A11 v11 (n, z) → A12 v12 (n, z) → A14 v14 (n, z) → A15 v15 (n, z) → A16 v16 (n, z) → A17 v17 (n, z) → AppendP CC #[23, 23] 23 [v11, v17] z fun x y => Gl T L A18 n z [x] x y) ∧
    (∀ v11 v12 v14 v15 v16 v17 v18 : Value, Fl T w_7 2 fun n z => n = 1 → L [v18] z → A11 v11 (n, z) → A12 v12 (n, z) → A14 v14 (n, z) → A15 v15 (n, z) → A16 v16 (n, z) → A17 v17 (n, z) → A18 v18 (n, z) → StoreP CC 23 x4 v18 z fun y => Gl T L As8 n z [v18, x4] undef y) ∧
    ∀ v11 v12 v14 v15 v16 v17 v18 vs8 : Value, ∀ (h : Nat → Value) (w_12 : World), T (0, w_7) (2, w_12) → A11 v11 (2, w_12) → A12 v12 (2, w_12) → A14 v14 (2, w_12) → A15 v15 (2, w_12) → A16 v16 (2, w_12) → A17 v17 (2, w_12) → A18 v18 (2, w_12) → As8 vs8 (2, w_12) → L [v18, x4] w_12 → 
    ∀ w', Vc.Sys w_5.heap.size w_12 w' → I (k + 1) w') ∧
  (∀ w_8, I N w_8 →
    LoadP CC 23 x4 w_8 fun x19 w_13 =>
    StoreP CC 23 x4 x19 w_13 fun w_14 =>
    ∀ w_15, Vc.Sys w.heap.size w_14 w_15 →
    ∃ ad r, x4 = .pointer (some ad) ∧ (loadVar 23 ad).run CC.P w_15 = .ok r w_15 ∧
    R r w_15) ∧
  (∀ j w_9, J j w_9 → match j with
    | .ret =>
      ∀ w_16, Vc.Sys w.heap.size w_9 w_16 →
      ∃ ad_1 r_1, x4 = .pointer (some ad_1) ∧ (loadVar 23 ad_1).run CC.P w_16 = .ok r_1 w_16 ∧
      R r_1 w_16
    | .exit i =>
      if i = 0 then (
        LoadP CC 23 x4 w_9 fun x19_1 w_17 =>
        StoreP CC 23 x4 x19_1 w_17 fun w_18 =>
        ∀ w_19, Vc.Sys w.heap.size w_18 w_19 →
        ∃ ad_2 r_2, x4 = .pointer (some ad_2) ∧ (loadVar 23 ad_2).run CC.P w_19 = .ok r_2 w_19 ∧
        R r_2 w_19) else
      False)
theorem V94_eq (a0 a1 : Value) (w : World) (R : Value → World → Prop) : V94 a0 a1 w R = FnP CC { keep := fun _ => [], lin := fun | 4 => [7, 8] | _ => [] } Tryz.f94 [a0, a1] w R := by kernel_rfl
theorem call94 {a0 a1 : Value} {w : World} {R : Value → World → Prop} (h : V94 a0 a1 w R) : CallP CC 94 [a0, a1] w R :=
  call_of_vc CC.ok _ Tryz.func94 (V94_eq a0 a1 w R ▸ h)
end Go.Proofs.YtaajkcngcalgoaaGreat
namespace Go.Proofs.YtaajkcngcalgoaaGreat
open Go Go.Vc Go.Spx
attribute [local irreducible] Tryz.prog
section
variable {c c' d : Bool} {L M K base n : Nat} {w w' w'' : World} {v o s u a b q : Value} {x y z : Rat} {xs ys row : List Rat} {m : List (List Rat)} {S P P' Q : Nat → Prop} {cs vs : List Value}
def NoB (e : TypeId) (S : Nat → Prop) (w : World) : Prop := ∀ k, S k → ∀ c fr, w.heap[k]? ≠ some (.cells c e fr)
theorem NoB.of {e e' : TypeId} {g : Nat} (hb : Blk w g e' cs) (he : e' ≠ e) : NoB e (· = g) w := by
  rintro k rfl c fr h
  unfold Blk at hb; rw [hb] at h; simp at h; exact he h.2.1
theorem NoB.own {e e' : TypeId} {sz : Nat} (ho : Vc.Own w base e' sz v n cs) (he : e' ≠ e) : NoB e (fun g => v.ownBlock = some g) w := by
  rintro k hk c fr h
  rcases ho.2 with ⟨rfl, _⟩ | ⟨g, cap, cur, rfl, hb, hgg, _⟩
  · simp [Value.ownBlock] at hk
  · simp [Value.ownBlock] at hk
    subst hk; rw [hgg] at h; simp at h; exact he h.2.1
theorem Vec.md2 (h : Vec c L P w v xs) (hm : Md S w w') (hn : ∀ k, P k → S k → ∀ c fr, w.heap[k]? ≠ some (.cells c 30 fr)) : Vec c L P w' v xs := by
  obtain ⟨cs, h1, h2⟩ := h
  refine ⟨cs, ⟨h1.1, ?_⟩, h2.md hm⟩
  rcases h1.2 with h | ⟨g, off, cap, hv, hl, hpg, c, fr, hg, hc⟩
  · exact .inl h
  · exact .inr ⟨g, off, cap, hv, hl, hpg, c, fr, hm.upd.block g _ (fun hs => hn g hpg hs c fr hg) hg, hc⟩
theorem Rows.md2 (h : Rows c L P w vs m) (hm : Md S w w') (hn : ∀ k, P k → S k → ∀ c fr, w.heap[k]? ≠ some (.cells c 30 fr)) : Rows c L P w' vs m :=
  ⟨h.1, fun i row hr => by obtain ⟨u, h1, h2⟩ := h.2 i row hr; exact ⟨u, h1, h2.md2 hm hn⟩⟩
theorem MatO.noB (h : MatO c L P base w v m) : NoB 30 (fun g => v.ownBlock = some g) w := by
  obtain ⟨vs, h1, h2⟩ := h; exact NoB.own h1 (by decide)
theorem MatO.ne {g e : Nat} (h : MatO c L P base w v m) (hb : Blk w g e cs) (he : e ≠ 23) : v.ownBlock ≠ some g := by
  obtain ⟨ds, h1, h2⟩ := h; exact Vc.Own.ne h1 hb he
theorem MatO.sys (h : MatO c L P base w v m) (hs : Vc.Sys n w w') : MatO c L P base w' v m := by
  obtain ⟨vs, h1, h2⟩ := h
  exact ⟨vs, Vc.Own.sys h1 hs, h2.1, fun i row hr => by obtain ⟨u, h3, h4⟩ := h2.2 i row hr; exact ⟨u, h3, h4.sys hs⟩⟩
theorem MatO.md2 (h : MatO c L P base w v m) (hm : Md S w w') (hd : ∀ k, v.ownBlock = some k → ¬ S k) (hn : ∀ k, P k → S k → ∀ c fr, w.heap[k]? ≠ some (.cells c 30 fr)) : MatO c L P base w' v m := by
  obtain ⟨vs, h1, h2⟩ := h; exact ⟨vs, Vc.Own.md h1 hm hd, h2.md2 hm hn⟩
theorem appV2 {C : Ctx} (hC : C.P = CC.P) {base' : Nat} {K : Value → World → Prop} (ho : MatO c L P base w o m) (h1 : One base' 23 w s [u]) (hv : Vec c L P w u row) (hb : base ≤ w.heap.size) (hn : m.length < 1099511627776)
    (hk : ∀ o' w', MatO c L P base w' o' (m ++ [row]) → Md (fun g => o.ownBlock = some g) w w' → (∀ g, o'.ownBlock = some g → o.ownBlock = some g ∨ w.heap.size ≤ g) → K o' w') :
    AppendP C #[22, 22] 22 [o, s] w K := by
  have hno := ho.noB
  obtain ⟨vs, h3, h4⟩ := ho
  refine AppendP.one (C := C) (sz := 1) (by rw [hC]; exact sl22) (by rw [hC]; exact ti23) rfl (by decide) h3 h1 rfl (by simpa using hv.one) (by omega) (by simp only [maxLen]; omega) hb (by decide) fun o' w' ho hm hf => ?_
  exact hk o' w' ⟨vs ++ [u], by simpa using ho, (h4.snoc hv).md2 hm fun k _ hk => hno k hk⟩ hm hf
theorem colsOf_snoc {m : List (List Rat)} {r : List Rat} : colsOf (m ++ [r]) = max (colsOf m) r.length := by simp [colsOf]
theorem c139 (h : Mat c L P P' w a m) (hb : ∀ r ∈ m, r.length < 9223372036854775808) : CallP CC 139 [a] w fun r w' => Grow w w' ∧ r = .int .i64 ((colsOf m : Nat) : Int) := by
  apply call139
  have hlim := h.lim
  refine px h.len ?_
  refine ⟨fun y k w' => ∃ i : Nat, k = .int .i64 i ∧ i ≤ m.length ∧ Grow w w' ∧ y = .int .i64 ((colsOf (m.take i) : Nat) : Int), fun _ k _ => m.length - (vint k).toNat, ⟨0, rfl, by omega, Grow.refl w, rfl⟩, ?_⟩
  rintro _ _ - w1 ⟨i, rfl, hi, hg1, rfl⟩
  refine px rfl (cD (fun hlt => ?_) (fun hge => ?_))
  · have hlt' : i < m.length := by omega
    obtain ⟨ad, had⟩ := h.idx (k := .i64) hlt'
    refine px had ((h.grow hg1).load (C := CC) rfl had (List.getElem?_eq_getElem hlt') fun u hu => px hu.len (px (v := .int .i64 ((colsOf (m.take (i + 1)) : Nat) : Int)) ?_ (pi rfl (by omega) ⟨⟨i + 1, by simp, by omega, hg1, rfl⟩, by simp only [vint_int]; omega⟩)))
    have e : m.take (i + 1) = m.take i ++ [m[i]] := by rw [List.take_add_one, List.getElem?_eq_getElem hlt']; rfl
    rw [e, colsOf_snoc]
    show some (Value.int .i64 (if ((m[i].length : Nat) : Int) > ((colsOf (m.take i) : Nat) : Int) then ((m[i].length : Nat) : Int) else ((colsOf (m.take i) : Nat) : Int))) = _
    congr 2
    split <;> omega
  · have : i = m.length := by omega
    subst this
    rw [List.take_length]
    exact ⟨hg1, rfl⟩
theorem Mat.vlen (h : Mat c L P P' w a m) {r : List Rat} (hr : r ∈ m) : r.length ≤ 1099511627776 := by
  obtain ⟨vs, h1, h2⟩ := h
  obtain ⟨i, hi, rfl⟩ := List.mem_iff_getElem.1 hr
  obtain ⟨u, _, hu⟩ := h2.2 i m[i] (List.getElem?_eq_getElem hi)
  exact hu.lim
theorem le_foldl_max : ∀ (l : List (List Rat)) (a : Nat), a ≤ l.foldl (fun n r => max n r.length) a ∧ ∀ r ∈ l, r.length ≤ l.foldl (fun n r => max n r.length) a
  | [], a => ⟨Nat.le_refl _, by simp⟩
  | r :: l, a => by
    have := le_foldl_max l (max a r.length)
    refine ⟨Nat.le_trans (Nat.le_max_left _ _) this.1, fun s hs => ?_⟩
    rcases List.mem_cons.1 hs with rfl | hs
    · exact Nat.le_trans (Nat.le_max_right _ _) this.1
    · exact this.2 s hs
theorem le_colsOf {m : List (List Rat)} {r : List Rat} (h : r ∈ m) : r.length ≤ colsOf m := (le_foldl_max m 0).2 r h
theorem c86 (h : Mat c L P P' w a m) (hx : Vec c' M Q w b xs) (h1 : 2 ≤ L) (h2 : 2 ≤ M) (hN : max (colsOf m) xs.length ≤ n) (hn : n < 1099511627776) (h4 : 2 + (n + 1) * (L + M + 1) < 268435456) :
    CallP CC 86 [a, b] w fun r w' => Grow w w' ∧ VecO true (2 + n * (L + M + 1)) w.heap.size w' r (mulVec m xs) := by
  apply call86
  have hlim := h.lim
  refine px h.len ?_
  refine ⟨fun o k w' => ∃ i : Nat, k = .int .i64 i ∧ i ≤ m.length ∧ Grow w w' ∧ VecO true (2 + n * (L + M + 1)) w.heap.size w' o (mulVec (m.take i) xs), fun _ k _ => m.length - (vint k).toNat, ⟨0, rfl, by omega, Grow.refl w, VecO.nil⟩, ?_⟩
  rintro o _ - w1 ⟨i, rfl, hi, hg1, ho⟩
  refine px rfl (cD (fun hlt => ?_) (fun hge => ?_))
  · have hlt' : i < m.length := by omega
    obtain ⟨ad, had⟩ := h.idx (k := .i64) hlt'
    refine px had ((h.grow hg1).load (C := CC) rfl had (List.getElem?_eq_getElem hlt') fun u hu => ?_)
    have hlr := le_colsOf (List.getElem_mem hlt')
    have hmul : (max m[i].length xs.length + 1) * (L + M + 1) ≤ (n + 1) * (L + M + 1) := Nat.mul_le_mul_right _ (by omega)
    have hmul2 : max m[i].length xs.length * (L + M + 1) ≤ n * (L + M + 1) := Nat.mul_le_mul_right _ (by omega)
    have hu' : Vec c L (fun k => k < w1.heap.size) w1 u m[i] := hu.old
    have hx' : Vec c' M (fun k => k < w1.heap.size) w1 b xs := (hx.grow hg1).old
    refine (c34 hu' hx' h1 h2 (by omega) (by omega)).mono ?_
    rintro r w2 ⟨hg2, hr⟩
    refine litQ (hr.le (M := 2 + n * (L + M + 1)) (by omega)) fun s w4 hg4 hone => appQ1 ((ho.grow hg2).grow hg4) hone ((hr.le (M := 2 + n * (L + M + 1)) (by omega)).grow hg4) (by have := hg1.size; have := hg2.size; have := hg4.size; omega) (by simp [mulVec]; omega) fun o' w5 ho' hm hf => ?_
    have hbk := ho.block
    have e : mulVec (m.take i) xs ++ [dot m[i] xs] = mulVec (m.take (i + 1)) xs := by
      rw [List.take_add_one, List.getElem?_eq_getElem hlt']; simp only [mulVec, List.map_append, Option.toList_some, List.map_cons, List.map_nil]
    rw [e] at ho'
    refine pi rfl (by omega) ⟨⟨i + 1, by simp, by omega, Md.new ((hg1.trans hg2).trans hg4) hm fun k hk => (hbk k hk).1, ho'⟩, ?_⟩
    simp only [vint_int]; omega
  · have : i = m.length := by omega
    subst this
    rw [List.take_length] at ho
    exact ⟨hg1, ho⟩
theorem c178 {i k : Nat} (h : Mat c L P P' w a m) (h1 : 2 ≤ L) (h2 : L ≤ 268435456) :
    CallP CC 178 [a, .int .i64 (i : Nat), .int .i64 (k : Nat)] w fun r w' => Grow w w' ∧ QR true L w' r (mat m i k) := by
  apply call178
  refine AllocP.mk ti30 fun g6 w1 hg1 hlt hlt' hb => ?_
  have hi0 : decide ((i : Int) < 0) = false := by simp
  have hk0 : decide ((k : Int) < 0) = false := by simp
  have hm1 := h.grow hg1
  have zer : ∀ {w2 : World}, Grow w1 w2 → mat m i k = 0 → ∃ x28, buildV (tyOf tyTab 30) [] = some x28 ∧ StoreP CC 30 (.pointer (some ⟨g6, 0, none⟩)) x28 w2 fun w3 => ∃ ad r, (Value.pointer (some ⟨g6, 0, none⟩)) = .pointer (some ad) ∧ (loadVar 30 ad).run CC.P w3 = .ok r w3 ∧ (Grow w w3 ∧ QR true L w3 r (mat m i k)) := by
    intro w2 hg2 h0
    refine px rfl (storeR (hb.grow hg2) rfl (QR.zero (c := true) (L := L) (by omega)) fun w3 hm3 hr => ?_)
    obtain ⟨r, hr1, hr2⟩ := hr.res
    exact ⟨_, _, rfl, hr1, Md.new (hg1.trans hg2) hm3 (fun k hk => by omega), by rw [h0]; exact hr2⟩
  obtain ⟨a', ca, rfl, hca⟩ := h.shape
  have el : lenV (tyOf tyTab 22) (.slice a' m.length ca) = some (.int .i64 m.length) := rfl
  have e1 : binV (.int .i64) .lss (.int .i64 (i : Nat)) (.int .i64 0) = some (.bool false) := by show some (Value.bool (decide ((i : Int) < 0))) = _; rw [hi0]
  have e2 : binV (.int .i64) .lss (.int .i64 (k : Nat)) (.int .i64 0) = some (.bool false) := by show some (Value.bool (decide ((k : Int) < 0))) = _; rw [hk0]
  have e3 : binV (.int .i64) .geq (.int .i64 (i : Nat)) (.int .i64 m.length) = some (.bool (decide (m.length ≤ i))) := by show some (Value.bool (decide ((i : Int) ≥ (m.length : Int)))) = _; congr 2; simp
  have e4 : ∀ N : Nat, binV (.int .i64) .geq (.int .i64 (k : Nat)) (.int .i64 N) = some (.bool (decide (N ≤ k))) := by intro N; show some (Value.bool (decide ((k : Int) ≥ (N : Int)))) = _; congr 2; simp
  have p1 : ∀ x : Value, pickV (.bool false) (.bool true) x = some x := fun _ => rfl
  have p2 : ∀ x : Value, pickV (.bool true) (.bool true) x = some (.bool true) := fun _ => rfl
  simp only [el, e1, e2, e3, gd, Option.getD_some, p1]
  by_cases hlt : i < m.length
  · have hd : decide (m.length ≤ i) = false := by simp; omega
    obtain ⟨ad, had⟩ := hm1.idx (k := .i64) hlt
    have had' : indexAddrV (tyOf tyTab 22) (.slice a' m.length ca) (.int .i64 (i : Nat)) = some ad := had
    simp only [hd, p1, gd, Option.getD_some, had']
    refine ⟨fun v _ => ∃ w0, Grow w1 w0 ∧ Vec c L P' w0 v m[i] ∧ lenV (tyOf tyTab 23) v = some (.int .i64 m[i].length), fun _ _ => ⟨_, rfl⟩, fun _ _ _ => ⟨_, rfl⟩, fun _ _ _ => ⟨_, rfl⟩, fun _ _ => ⟨_, rfl⟩, fun _ _ _ => ⟨_, rfl⟩, fun _ _ => ⟨_, rfl⟩, fun _ _ _ => ⟨_, rfl⟩, ?_, ?_, ?_, ?_, ?_⟩
    · intro w2 hg2 _
      exact (hm1.grow hg2).load (C := CC) rfl had (List.getElem?_eq_getElem hlt) fun u hu => ⟨Grow.refl _, fun w3 hg3 => ⟨w2, hg2, hu, hu.len⟩⟩
    · rintro v w2 hg2 hv h24
      obtain ⟨_, _, _, hv⟩ := hv trivial
      exact ⟨_, hv⟩
    · rintro v w2 hg2 hv h24
      obtain ⟨_, _, _, hv⟩ := hv trivial
      rw [hv]; exact ⟨_, rfl⟩
    · rintro v w2 hg2 hv
      exact ⟨_, rfl⟩
    · rintro v _ w2 hg2 hv
      obtain ⟨_, _, _, hv⟩ := hv trivial
      rw [hv]
      simp only [gd, Option.getD_some, e4]
      refine cD (fun hge => ?_) (fun hlk => ?_)
      · exact zer hg2 (by unfold mat Spx.rowAt; rw [List.getD_eq_getElem?_getD, List.getElem?_eq_getElem hlt]; exact qat_none hge)
      · have hlk' : k < m[i].length := by omega
        refine px rfl ((hm1.grow hg2).load (C := CC) rfl had (List.getElem?_eq_getElem hlt) fun u hu => ?_)
        obtain ⟨ad2, had2⟩ := hu.idx (k := .i64) hlk'
        refine px had2 (hu.load had2 (qat_get hlk') fun r hr => (q87 hr h1 h2).mono ?_)
        rintro r' w4 ⟨hg4, hr4⟩
        refine storeR ((hb.grow hg2).grow hg4) rfl hr4 fun w5 hm5 hr5 => ?_
        obtain ⟨r, hr1, hr2⟩ := hr5.res
        refine ⟨_, _, rfl, hr1, Md.new ((hg1.trans hg2).trans hg4) hm5 (fun k hk => by omega), ?_⟩
        have : mat m i k = qat m[i] k := by unfold mat Spx.rowAt; rw [List.getD_eq_getElem?_getD, List.getElem?_eq_getElem hlt]; rfl
        rw [this]; exact hr2
  · have hd : decide (m.length ≤ i) = true := by simp; omega
    simp only [hd, p2, gd, Option.getD_some]
    refine ⟨fun v _ => True, fun _ _ => ⟨_, rfl⟩, fun _ _ _ => ⟨_, rfl⟩, fun _ _ _ => ⟨_, rfl⟩, fun _ _ => ⟨_, rfl⟩, fun _ _ h => (by cases h), fun _ _ => ⟨_, rfl⟩, fun _ _ h => (by cases h), fun _ _ h => (by cases h), fun _ _ _ _ h => (by cases h), fun _ _ _ _ h => (by cases h), fun _ _ _ _ => ⟨_, rfl⟩, ?_⟩
    intro _ _ w2 hg2 _
    refine cT rfl (zer hg2 ?_)
    unfold mat Spx.rowAt
    rw [List.getD_eq_getElem?_getD, List.getElem?_eq_none (by omega)]
    exact qat_none (by simp)
end
end Go.Proofs.YtaajkcngcalgoaaGreat
namespace Go.Proofs.YtaajkcngcalgoaaGreat
open Go Go.Vc Go.Spx
attribute [local irreducible] Tryz.prog
section
variable {c c' d : Bool} {L M K base n : Nat} {w w' w'' : World} {v o s u a b q : Value} {x y z : Rat} {xs ys row : List Rat} {m m' : List (List Rat)} {S P P' Q Q' : Nat → Prop} {cs vs : List Value}
theorem setpart {k R : Nat} {f : Nat → Rat} (hk : k < R) : ((List.range k).map f ++ List.replicate (R - k) 0).set k (f k) = (List.range (k + 1)).map f ++ List.replicate (R - (k + 1)) 0 := by
  apply List.ext_getElem?
  intro i
  simp only [List.getElem?_set, List.getElem?_append, List.length_map, List.length_range, List.getElem?_map, List.getElem?_replicate, List.length_append, List.length_replicate]
  by_cases h1 : k = i
  · subst h1
    simp only [if_true]
    rw [if_pos (by omega), if_pos (by omega), List.getElem?_range (by omega)]; rfl
  · rw [if_neg h1]
    by_cases h2 : i < k
    · rw [if_pos h2, if_pos (by omega), List.getElem?_range h2, List.getElem?_range (by omega)]
    · have e1 : ¬ i < k + 1 := by omega
      simp only [h2, e1, if_false]
      by_cases h3 : i < R
      · rw [if_pos (by omega), if_pos (by omega)]
      · rw [if_neg (by omega), if_neg (by omega)]
theorem c181 {R C : Nat} {fv : Value} {f : Nat → Nat → Rat} (h1 : 2 ≤ L) (h2 : L ≤ 268435456) (hR : R ≤ 65536) (hC : C ≤ 65536) (hf1 : fv.oneCell' = true)
    (hat : ∀ w', Md (fun k => w.heap.size ≤ k) w w' → ∀ i k : Nat, i < R → k < C → callV CC fv [.int .i64 i, .int .i64 k] w' fun r w'' => Grow w' w'' ∧ QR true L w'' r (f i k)) :
    CallP CC 181 [.agg #[.int .i64 R, .int .i64 C, fv]] w fun r w' => Grow w w' ∧ MatO true L (fun k => w.heap.size ≤ k) w.heap.size w' r (grid R C f) := by
  apply call181
  refine BoxP.mk fun g1 w1 hg1 hlt1 hlt1' hb1 => ?_
  have hb1 : Blk w1 g1 227 [.int .i64 R, .int .i64 C, fv] := by simpa [Value.cells] using hb1
  refine px rfl (LoadP.fld (o := 0) hb1 ti3 rfl ?_)
  refine ⟨fun o k w' => ∃ i : Nat, k = .int .i64 i ∧ i ≤ R ∧ Grow w w' ∧ Blk w' g1 227 [.int .i64 R, .int .i64 C, fv] ∧ MatO true L (fun k => w.heap.size ≤ k) w.heap.size w' o (grid i C f) ∧ g1 < w'.heap.size, fun _ k _ => R - (vint k).toNat,
    ⟨0, rfl, by omega, hg1, hb1, MatO.nil, hlt1'⟩, ?_⟩
  rintro o _ - w2 ⟨i, rfl, hi, hg2, hb2, ho2, hl2⟩
  refine px rfl (cD (fun hlt => ?_) (fun hge => ?_))
  · have hlt' : i < R := by omega
    refine px rfl (LoadP.fld (o := 1) hb2 ti3 rfl ?_)
    refine MakeP.mk (C := CC) sl23 ti30 rfl (by decide) (by omega) (by simp only [maxLen]; omega) fun g w3 hg3 hlt3 hlt3' hb3 => ?_
    have hrow : VecO true L g w3 (.slice (some ⟨g, 0, none⟩) C C) (List.replicate C 0) := VecO.made hb3 (by omega) (Nat.le_refl _) (by omega)
    have s2 := hg2.size
    have s3 := hg3.size
    have ho3 := ho2.grow hg3
    have hb33 := hb2.grow hg3
    have hob := ho2.block
    refine px (v := .int .i64 C) rfl ?_
    refine ⟨fun k w' => ∃ j : Nat, k = .int .i64 j ∧ j ≤ C ∧ Md (· = g) w3 w' ∧ VecO true L g w' (.slice (some ⟨g, 0, none⟩) C C) ((List.range j).map (f i) ++ List.replicate (C - j) 0), fun k _ => C - (vint k).toNat, ⟨0, rfl, by omega, Md.refl _, by simpa using hrow⟩, ?_⟩
    rintro _ - w4 ⟨j, rfl, hj, hm4, hr4⟩
    have s4 := hm4.size
    have hb4 := hb33.md hm4 (by omega)
    refine px rfl (cD (fun hltj => ?_) (fun hgej => ?_))
    · have hltj' : j < C := by omega
      refine px rfl (LoadP.fld (o := 2) hb4 ti225 rfl ?_)
      have hmw : Md (fun k => w.heap.size ≤ k) w w4 := (Md.grow (hg2.trans hg3)).trans (hm4.mono fun k hk => by omega)
      refine callV_mono (hat w4 hmw i j hlt' hltj') ?_
      rintro r w5 ⟨hg5, hr5⟩
      refine (q87 hr5 h1 h2).mono ?_
      rintro r w6 ⟨hg6, hr6⟩
      have hr46 := (hr4.grow hg5).grow hg6
      obtain ⟨g', hg', hidx⟩ := hr46.idx (k := .i64) (i := j) (by simp; omega)
      have eg : g' = g := by simpa [Value.ownBlock] using hg'.symm
      subst eg
      refine px hidx (hr46.store hr6 rfl (by simp; omega) fun w7 hm7 hr7 => ?_)
      rw [setpart hltj'] at hr7
      refine pi rfl (by omega) ⟨⟨j + 1, by simp, by omega, ((hm4.trans (Md.grow hg5)).trans (Md.grow hg6)).trans (hm7.mono fun k hk => by simpa [Value.ownBlock] using hk.symm), hr7⟩, ?_⟩
      simp only [vint_int]; omega
    · have : j = C := by omega
      subst this
      have hg24 : Grow w2 w4 := Md.new hg3 hm4 fun k hk => by omega
      have ho4 := ho2.grow hg24
      have hrv := (hr4.vec (by simp; omega)).mono (Q := fun k => w.heap.size ≤ k) fun k _ hk => by omega
      have e1 : (List.range j).map (f i) ++ List.replicate (j - j) 0 = (List.range j).map (f i) := by simp
      rw [e1] at hrv
      refine litV (C := CC) rfl hrv fun s w5 hg5 hone => appV2 (C := CC) rfl (ho4.grow hg5) hone (hrv.grow hg5) (by have := hg24.size; have := hg5.size; omega) (by simp [grid]; omega) fun o' w6 ho' hm6 hf => ?_
      have e2 : grid i j f ++ [(List.range j).map (f i)] = grid (i + 1) j f := by simp [grid, List.range_succ]
      rw [e2] at ho'
      have hg25 := hg24.trans hg5
      have hg26 : Grow w w6 := Md.new (hg2.trans hg25) hm6 fun k hk => (hob k hk).1
      refine pi rfl (by omega) ⟨⟨i + 1, by simp, by omega, hg26, ((hb2.grow hg25).md hm6 ?_), ho', ?_⟩, ?_⟩
      · exact (ho2.grow hg25).ne (hb2.grow hg25) (by decide)
      · have := hg25.size; have := hm6.size; omega
      · simp only [vint_int]; omega
  · have : i = R := by omega
    subst this
    exact ⟨hg2, ho2⟩
def cut (n : Int) : Nat := min n.toNat 1024
theorem c179 {n : Int} : CallP CC 179 [.int .i64 n] w fun r w' => Grow w w' ∧ r = .int .i64 ((cut n : Nat) : Int) := by
  apply call179
  refine px rfl (px (v := .int .i64 ((cut n : Nat) : Int)) ?_ ⟨Grow.refl _, rfl⟩)
  unfold cut
  simp only [maxV, minV]
  congr 2
  split <;> split <;> omega
theorem c180 {g i k : Nat} (hb : Blk w g 22 [a]) (h : Mat c L P P' w a m) (h1 : 2 ≤ L) (h2 : L ≤ 268435456) :
    CallP CC 180 [.int .i64 (i : Nat), .int .i64 (k : Nat), .pointer (some ⟨g, 0, none⟩)] w fun r w' => Grow w w' ∧ QR true L w' r (mat m i k) := by
  apply call180
  refine AllocP.mk ti30 fun g5 w1 hg1 hlt hlt' hb5 => LoadP.fld (hb.grow hg1) ti22 rfl ((c178 (h.grow hg1) h1 h2).mono ?_)
  rintro r w2 ⟨hg2, hr⟩
  refine storeR (hb5.grow hg2) rfl hr fun w3 hm3 hr3 => ?_
  obtain ⟨r, hr1, hr2⟩ := hr3.res
  exact ⟨_, _, rfl, hr1, Md.new (hg1.trans hg2) hm3 (fun k hk => by omega), hr2⟩
theorem Mat.old (h : Mat c L P P' w v m) : Mat c L (fun k => k < w.heap.size) (fun k => k < w.heap.size) w v m := h.mono (fun k hk _ => hk) fun k hk _ => hk
theorem MatO.down {base' : Nat} (h : MatO c L P base w v m) (hb : base' ≤ base) : MatO c L P base' w v m := by
  obtain ⟨vs, h1, h2⟩ := h; exact ⟨vs, Vc.Own.base h1 hb, h2⟩
theorem c120 {r k : Int} (h : Mat c L P P' w a m) (h1 : 2 ≤ L) (h2 : L ≤ 268435456) :
    CallP CC 120 [a, .int .i64 r, .int .i64 k] w fun o w' => Grow w w' ∧ MatO true L (fun k => w.heap.size ≤ k) w.heap.size w' o (grid (cut r) (cut k) (mat m)) := by
  have hone := vcells_one h.one
  apply call120
  refine BoxP.mk fun g3 w1 hg1 hlt hlt' hb3 => (c179 (n := r)).mono ?_
  rw [hone] at hb3
  rintro _ w2 ⟨hg2, rfl⟩
  refine (c179 (n := k)).mono ?_
  rintro _ w3 ⟨hg3, rfl⟩
  have hg13 := hg2.trans hg3
  have hg03 := hg1.trans hg13
  have hm3 := (h.grow hg03).old
  have hb33 := hb3.grow hg13
  refine px rfl (px rfl ((c181 (f := mat m) h1 h2 (by unfold cut; omega) (by unfold cut; omega) rfl ?_).mono ?_))
  · intro w4 hm4 i k _ _
    refine callV.func (cap := #[.pointer (some ⟨g3, 0, none⟩)]) rfl (c180 (hb33.md hm4 (by have := hb33.lt; omega)) (hm3.md hm4 (fun k hk => by omega) (fun k hk => by omega)) h1 h2)
  · rintro o w4 ⟨hg4, ho⟩
    have hs := hg03.size
    exact ⟨hg03.trans hg4, (ho.mono fun k _ hk => by omega).down hs⟩
def ident (N : Nat) : List (List Rat) := (List.range N).map fun (i : Nat) => unit N i
theorem cut_cut {n : Int} : min ((cut n : Nat) : Int).toNat 65536 = cut n := by unfold cut; omega
theorem c141 {n : Int} : CallP CC 141 [.int .i64 n] w fun o w' => Grow w w' ∧ MatO true 2 (fun k => w.heap.size ≤ k) w.heap.size w' o (ident (cut n)) := by
  have hc : cut n ≤ 1024 := by unfold cut; omega
  apply call141
  refine (c179 (n := n)).mono ?_
  rintro _ w1 ⟨hg1, rfl⟩
  refine ⟨fun o k w' => ∃ i : Nat, k = .int .i64 i ∧ i ≤ cut n ∧ Grow w w' ∧ MatO true 2 (fun k => w.heap.size ≤ k) w.heap.size w' o ((ident (cut n)).take i), fun _ k _ => cut n - (vint k).toNat, ⟨0, rfl, by omega, hg1, MatO.nil⟩, ?_⟩
  rintro o _ - w2 ⟨i, rfl, hi, hg2, ho⟩
  refine px rfl (cD (fun hlt => ?_) (fun hge => ?_))
  · refine (c179 (n := n)).mono ?_
    rintro _ w3 ⟨hg3, rfl⟩
    refine c52.mono ?_
    rintro r w4 ⟨hg4, hr⟩
    rw [cut_cut] at hr
    have hs := (hg2.trans hg3).size
    have hrv := (hr.vec (by simp [unit]; omega)).mono (Q := fun k => w.heap.size ≤ k) fun k _ hk => by omega
    refine litV (C := CC) rfl hrv fun s w5 hg5 hone => appV2 (C := CC) rfl (((ho.grow hg3).grow hg4).grow hg5) hone (hrv.grow hg5) (by have := hg4.size; have := hg5.size; omega) (by simp [ident]; omega) fun o' w6 ho' hm6 hf => ?_
    have hob := ho.block
    have e : (ident (cut n)).take i ++ [unit (cut n) (i : Nat)] = (ident (cut n)).take (i + 1) := by
      have hlt' : i < cut n := by omega
      rw [List.take_add_one]
      simp only [ident, List.getElem?_map, List.getElem?_range hlt']; rfl
    rw [e] at ho'
    refine pi rfl (by omega) ⟨⟨i + 1, by simp, by omega, Md.new (((hg2.trans hg3).trans hg4).trans hg5) hm6 fun k hk => (hob k hk).1, ho'⟩, ?_⟩
    simp only [vint_int]; omega
  · have : i = cut n := by omega
    subst this
    rw [List.take_of_length_le (by simp [ident])] at ho
    exact ⟨hg2, ho⟩
def concat (a b : List (List Rat)) : List (List Rat) := grid (max a.length b.length) (colsOf a + colsOf b) fun i k => if k < colsOf a then mat a i k else mat b i (k - colsOf a)
theorem c194 {i k g2 g3 g4 : Nat} {N : Nat} (hn : Blk w g2 3 [.int .i64 N]) (ha : Blk w g3 22 [a]) (hb : Blk w g4 22 [b]) (h : Mat c L P P' w a m) (h' : Mat c' M Q Q' w b m') (h1 : 2 ≤ L) (h2 : L ≤ 268435456) (h3 : 2 ≤ M) (h4 : M ≤ 268435456) (hk : k < 9223372036854775808) (hN : N < 9223372036854775808) :
    CallP CC 194 [.int .i64 (i : Nat), .int .i64 (k : Nat), .pointer (some ⟨g2, 0, none⟩), .pointer (some ⟨g3, 0, none⟩), .pointer (some ⟨g4, 0, none⟩)] w fun r w' => Grow w w' ∧ QR true (max L M) w' r (if k < N then mat m i k else mat m' i (k - N)) := by
  apply call194
  refine AllocP.mk ti30 fun g5 w1 hg1 hlt hlt' hb5 => LoadP.fld (hn.grow hg1) ti3 rfl (px rfl (cD (fun hl => ?_) (fun hl => ?_)))
  · refine LoadP.fld (ha.grow hg1) ti22 rfl ((c178 (h.grow hg1) h1 h2).mono ?_)
    rintro r w2 ⟨hg2, hr⟩
    refine storeR (hb5.grow hg2) rfl (hr.le (Nat.le_max_left L M)) fun w3 hm3 hr3 => ?_
    obtain ⟨r, hr1, hr2⟩ := hr3.res
    exact ⟨_, _, rfl, hr1, Md.new (hg1.trans hg2) hm3 (fun k hk => by omega), by rw [if_pos (by omega)]; exact hr2⟩
  · refine LoadP.fld (hb.grow hg1) ti22 rfl (LoadP.fld (hn.grow hg1) ti3 rfl (pi (x := ((k - N : Nat) : Int)) ?_ (by omega) ((c178 (h'.grow hg1) h3 h4).mono ?_)))
    · have : ((k - N : Nat) : Int) = (k : Int) - N := by omega
      rw [this]; rfl
    rintro r w2 ⟨hg2, hr⟩
    refine storeR (hb5.grow hg2) rfl (hr.le (Nat.le_max_right L M)) fun w3 hm3 hr3 => ?_
    obtain ⟨r, hr1, hr2⟩ := hr3.res
    exact ⟨_, _, rfl, hr1, Md.new (hg1.trans hg2) hm3 (fun k hk => by omega), by rw [if_neg (by omega)]; exact hr2⟩
theorem c140 (h : Mat c L P P' w a m) (h' : Mat c' M Q Q' w b m') (h1 : 2 ≤ L) (h2 : L ≤ 268435456) (h3 : 2 ≤ M) (h4 : M ≤ 268435456) (hl : m.length ≤ 65536) (hl' : m'.length ≤ 65536) (hc : colsOf m + colsOf m' ≤ 65536) :
    CallP CC 140 [a, b] w fun r w' => Grow w w' ∧ MatO true (max L M) (fun k => w.heap.size ≤ k) w.heap.size w' r (concat m m') := by
  have o1 := vcells_one h.one
  have o2 := vcells_one h'.one
  have hr1 : ∀ r ∈ m, r.length < 9223372036854775808 := fun r hr => by have := le_colsOf hr; omega
  have hr2 : ∀ r ∈ m', r.length < 9223372036854775808 := fun r hr => by have := le_colsOf hr; omega
  apply call140
  refine BoxP.mk fun g2 w1 hg1 hlt2 hlt2' hb2 => BoxP.mk fun g3 w2 hg2 hlt3 hlt3' hb3 => ?_
  rw [o1] at hb2
  rw [o2] at hb3
  have hb2' := hb2.grow hg2
  refine LoadP.fld hb2' ti22 rfl ((c139 (h.grow (hg1.trans hg2)) hr1).mono ?_)
  rintro _ w3 ⟨hg3, rfl⟩
  refine AllocP.mk ti3 fun g5 w4 hg4 hlt5 hlt5' hb5 => StoreP.var ti3 hb5 rfl fun w5 hu5 hb5' => ?_
  have hm5 := Md.of hu5 hb5 (by decide)
  have hg24 := hg3.trans hg4
  have s1 := hg1.size
  have s2 := hg2.size
  have s24 := hg24.size
  have s3 := hg3.size
  have hg25 : Grow w2 w5 := Md.new hg24 hm5 fun k hk => by omega
  have hg05 : Grow w w5 := (hg1.trans hg2).trans hg25
  have hb25 := hb2'.grow hg25
  have hb35 := hb3.grow hg25
  have hA := (h.grow hg05).old
  have hB := (h'.grow hg05).old
  refine ⟨fun v _ => v = a, fun v _ => v = b, fun v _ => v = .int .i64 ((colsOf m : Nat) : Int), fun v _ => v = b, fun v _ => v = .int .i64 ((colsOf m' : Nat) : Int),
    fun v w' => MatO true (max L M) (fun k => w.heap.size ≤ k) w.heap.size w' v (concat m m'), ?_, ?_, ?_, ?_, ?_, ?_, ?_, ?_, ?_, ?_, ?_, ?_, ?_⟩
  · exact fun w6 hg => LoadP.fld (hb25.grow hg) ti22 rfl ⟨Grow.refl _, fun _ _ => rfl⟩
  · rintro _ w6 hg rfl; exact ⟨_, h.len⟩
  · exact fun _ w6 hg => LoadP.fld (hb35.grow hg) ti22 rfl ⟨Grow.refl _, fun _ _ => rfl⟩
  · rintro _ _ w6 hg rfl; exact ⟨_, h'.len⟩
  · rintro _ _ w6 hg rfl rfl
    have e1 : lenV (tyOf tyTab 22) _ = _ := h.len
    have e2 : lenV (tyOf tyTab 22) _ = _ := h'.len
    rw [e1, e2]; exact ⟨_, rfl⟩
  · exact fun _ _ w6 hg => LoadP.fld (hb5'.grow hg) ti3 rfl ⟨Grow.refl _, fun _ _ => rfl⟩
  · exact fun _ _ _ w6 hg => LoadP.fld (hb35.grow hg) ti22 rfl ⟨Grow.refl _, fun _ _ => rfl⟩
  · rintro _ _ _ _ w6 hg rfl
    exact fc (c139 ((h'.grow hg05).grow hg) hr2) fun r _ _ hr _ => hr
  · rintro _ _ _ _ _ w6 hg rfl _ rfl; exact ⟨_, rfl⟩
  · exact fun _ _ _ _ _ _ _ => ⟨_, rfl⟩
  · rintro _ _ _ _ _ w6 hg rfl rfl rfl _ rfl
    have e1 : lenV (tyOf tyTab 22) _ = _ := h.len
    have e2 : lenV (tyOf tyTab 22) _ = _ := h'.len
    rw [e1, e2]; exact ⟨_, rfl⟩
  · rintro _ _ _ _ _ w6 hg rfl rfl rfl _ rfl
    have e1 : lenV (tyOf tyTab 22) _ = _ := h.len
    have e2 : lenV (tyOf tyTab 22) _ = _ := h'.len
    rw [e1, e2]
    have ea : (maxV (some (Value.int .i64 (m.length : Nat)) |>.getD undef) (some (Value.int .i64 (m'.length : Nat)) |>.getD undef)) = some (.int .i64 ((max m.length m'.length : Nat) : Int)) := by
      show some (Value.int .i64 (if ((m'.length : Nat) : Int) > (m.length : Nat) then ((m'.length : Nat) : Int) else (m.length : Nat))) = _
      congr 2
      split <;> omega
    have eb : binV (.int .i64) .add (.int .i64 ((colsOf m : Nat) : Int)) (.int .i64 ((colsOf m' : Nat) : Int)) = some (.int .i64 ((colsOf m + colsOf m' : Nat) : Int)) := by
      show some (Value.int .i64 (IntKind.i64.wrap _)) = _
      rw [wrap_i64 (by omega)]; simp
    rw [ea, eb]
    refine CallP.mono (c181 (w := w6) (L := max L M) (R := max m.length m'.length) (C := colsOf m + colsOf m') (fv := .func (.func 194) #[] #[.pointer (some ⟨g5, 0, none⟩), .pointer (some ⟨g2, 0, none⟩), .pointer (some ⟨g3, 0, none⟩)])
      (f := fun i k => if k < colsOf m then mat m i k else mat m' i (k - colsOf m)) (by omega) (by omega) (by omega) hc rfl ?_) ?_
    · intro w7 hm7 i k hi hk
      have s6 := hg.size
      refine callV.func (cap := #[.pointer (some ⟨g5, 0, none⟩), .pointer (some ⟨g2, 0, none⟩), .pointer (some ⟨g3, 0, none⟩)]) rfl
        (c194 ((hb5'.grow hg).md hm7 (by have := hb5'.lt; omega)) ((hb25.grow hg).md hm7 (by have := hb25.lt; omega)) ((hb35.grow hg).md hm7 (by have := hb35.lt; omega))
          ((hA.grow hg).md hm7 (fun k hk => by omega) (fun k hk => by omega)) ((hB.grow hg).md hm7 (fun k hk => by omega) (fun k hk => by omega)) h1 h2 h3 h4 (by omega) (by omega))
    · rintro r w7 ⟨hg7, hr⟩
      have s := (hg05.trans hg).size
      exact ⟨hg7, fun w8 hg8 => ((hr.mono fun k _ hk => by omega).down s).grow hg8⟩
  · rintro _ _ _ _ _ v19 _ w6 hg _ _ _ _ _ h19
    exact ⟨hg05.trans hg, h19⟩
def I64ss (P : Nat → Prop) (w : World) (v : Value) (l : List (List Int)) : Prop := ∃ vs, Sli (fun k _ => P k) w 102 1 v l.length vs ∧ ∀ (i : Nat) (r : List Int), l[i]? = some r → ∃ u, vs[i]? = some u ∧ I64s P w u r
theorem c97 {l : List (List Int)} (h : I64ss P w a l) : CallP CC 97 [a] w fun o w' => Grow w w' ∧ MatO true 2 (fun k => w.heap.size ≤ k) w.heap.size w' o (l.map ratsOf) := by
  apply call97
  obtain ⟨vs, h1, h2⟩ := h
  have hlim := h1.lim
  refine px h1.len ?_
  refine ⟨fun o k w' => ∃ i : Nat, k = .int .i64 i ∧ i ≤ l.length ∧ Grow w w' ∧ MatO true 2 (fun k => w.heap.size ≤ k) w.heap.size w' o ((l.take i).map ratsOf), fun _ k _ => l.length - (vint k).toNat, ⟨0, rfl, by omega, Grow.refl w, MatO.nil⟩, ?_⟩
  rintro o _ - w2 ⟨i, rfl, hi, hg2, ho⟩
  refine px rfl (cD (fun hlt => ?_) (fun hge => ?_))
  · have hlt' : i < l.length := by omega
    obtain ⟨u, hu, hv⟩ := h2 i l[i] (List.getElem?_eq_getElem hlt')
    obtain ⟨ad, had⟩ := h1.idx (k := .i64) hlt'
    refine px had (Sli.load1 (C := CC) (h1.keep hg2.kp) ti102 had hu ((c73 (hv.grow hg2)).mono ?_))
    rintro r w3 ⟨hg3, hr⟩
    have hs := hg2.size
    have hrv := (hr.vec (by have := hv.1.lim; simpa [ratsOf] using this)).mono (Q := fun k => w.heap.size ≤ k) fun k _ hk => by omega
    refine litV (C := CC) rfl hrv fun s w5 hg5 hone => appV2 (C := CC) rfl ((ho.grow hg3).grow hg5) hone (hrv.grow hg5) (by have := hg3.size; have := hg5.size; omega) (by simp; omega) fun o' w6 ho' hm6 hf => ?_
    have hob := ho.block
    have e : (l.take i).map ratsOf ++ [ratsOf l[i]] = (l.take (i + 1)).map ratsOf := by
      rw [List.take_add_one, List.getElem?_eq_getElem hlt']; simp only [List.map_append, Option.toList_some, List.map_cons, List.map_nil]
    rw [e] at ho'
    refine pi rfl (by omega) ⟨⟨i + 1, by simp, by omega, Md.new ((hg2.trans hg3).trans hg5) hm6 fun k hk => (hob k hk).1, ho'⟩, ?_⟩
    simp only [vint_int]; omega
  · have : i = l.length := by omega
    subst this
    rw [List.take_length] at ho
    exact ⟨hg2, ho⟩
end
end Go.Proofs.YtaajkcngcalgoaaGreat
namespace Go.Proofs.YtaajkcngcalgoaaGreat
open Go Go.Vc Go.Spx
attribute [local irreducible] Tryz.prog
theorem part3 {w : World} {cs : Array Value} {o : Nat} {v : Value} (h : cs[o]? = some v) : (part 3 cs o).run Tryz.prog w = .ok v w := by
  unfold part
  rw [Sem.run_bind, ti3.isAgg (C := CC) w]
  simp [h]
theorem eqF {w : World} {f : Field} {fs : List Field} {xs ys : Array Value} {a b : Int} (ht : f.type = 3) (hn : f.name ≠ "_") (hx : xs[f.offset]? = some (.int .i64 a)) (hy : ys[f.offset]? = some (.int .i64 b)) :
    (Op.eqFields 9999 xs ys (f :: fs)).run Tryz.prog w = if a = b then (Op.eqFields 9999 xs ys fs).run Tryz.prog w else .ok false w := by
  have he : (Op.equalIn (9998 + 1) 3 (.int .i64 a) (.int .i64 b)).run Tryz.prog w = .ok (a == b) w := run_equalIn_int (P := Tryz.prog) w 9998 3 .i64 .i64 a b Tryz.underlying3
  simp only [Op.eqFields, ht, if_pos hn, Sem.run_bind, part3 hx, part3 hy, Result.andThen_ok, he]
  by_cases h : a = b
  · simp [h]
  · simp [h]
theorem eq180 {a b c d a' b' c' d' : Int} {x y : Operand} {w : World} {K : Value → World → Prop} (hk : K (.bool (decide (a = a' ∧ b = b' ∧ c = c' ∧ d = d'))) w) :
    EqP CC .eql 180 x y (.agg #[.int .i64 a, .int .i64 b, .int .i64 c, .int .i64 d]) (.agg #[.int .i64 a', .int .i64 b', .int .i64 c', .int .i64 d']) w K := by
  refine ⟨_, w, ?_, NC.refl _ _, hk⟩
  have hf : CC.P.underlying 180 = some (.struct (CC.P.fieldsOf 180)) := by simp [Program.fieldsOf, Tryz.underlying180]
  rw [Sem.run_bind, run_eqGuard_agg w .eql 180 x y _ _ Tryz.eqGuardType180]
  simp only [Result.andThen_ok]
  rw [run_eql_struct, run_equalIn_struct w 9999 180 _ _ hf Tryz.stoodInHeld180]
  simp only [Program.fieldsOf, Tryz.underlying180]
  rw [eqF (a := a) (b := a') rfl (by decide) rfl rfl, eqF (a := b) (b := b') rfl (by decide) rfl rfl, eqF (a := c) (b := c') rfl (by decide) rfl rfl, eqF (a := d) (b := d') rfl (by decide) rfl rfl]
  by_cases h1 : a = a' <;> by_cases h2 : b = b' <;> by_cases h3 : c = c' <;> by_cases h4 : d = d' <;> simp [h1, h2, h3, h4, Op.eqFields, Result.andThen]
section
variable {c c' d : Bool} {L M K base n : Nat} {w w' w'' : World} {v o s u a b q : Value} {x y z : Rat} {xs ys row : List Rat} {m m' : List (List Rat)} {S P P' Q Q' : Nat → Prop} {cs vs : List Value} {p : Lp}
def LpR (c : Bool) (L : Nat) (P : Nat → Prop) (w : World) (v : Value) (p : Lp) : Prop := ∃ o r b, v = .agg #[.int .i64 p.vars, o, r, b] ∧ Mat c L P P w o p.objs ∧ Mat c L P P w r p.rows ∧ Vec c L P w b p.bounds ∧
  (-9223372036854775808 ≤ p.vars ∧ p.vars < 9223372036854775808)
theorem LpR.grow (h : LpR c L P w v p) (hg : Grow w w') : LpR c L P w' v p := by
  obtain ⟨o, r, b, h1, h2, h3, h4, h5⟩ := h; exact ⟨o, r, b, h1, h2.grow hg, h3.grow hg, h4.grow hg, h5⟩
theorem LpR.md (h : LpR c L P w v p) (hm : Md S w w') (hd : ∀ k, P k → ¬ S k) : LpR c L P w' v p := by
  obtain ⟨o, r, b, h1, h2, h3, h4, h5⟩ := h; exact ⟨o, r, b, h1, h2.md hm hd hd, h3.md hm hd hd, h4.md hm hd, h5⟩
theorem LpR.mono (h : LpR c L P w v p) (hq : ∀ k, k < w.heap.size → P k → Q k) : LpR c L Q w v p := by
  obtain ⟨o, r, b, h1, h2, h3, h4, h5⟩ := h; exact ⟨o, r, b, h1, h2.mono hq hq, h3.mono hq hq, h4.mono hq, h5⟩
theorem LpR.old (h : LpR c L P w v p) : LpR c L (fun k => k < w.heap.size) w v p := h.mono fun k hk _ => hk
theorem Mat.sys (h : Mat c L P P' w v m) (hs : Vc.Sys n w w') : Mat c L P P' w' v m := by
  obtain ⟨vs, h1, h2⟩ := h
  exact ⟨vs, h1.keep hs.kp, h2.1, fun i row hr => by obtain ⟨u, h3, h4⟩ := h2.2 i row hr; exact ⟨u, h3, h4.sys hs⟩⟩
theorem LpR.sys (h : LpR c L P w v p) (hs : Vc.Sys n w w') : LpR c L P w' v p := by
  obtain ⟨o, r, b, h1, h2, h3, h4, h5⟩ := h; exact ⟨o, r, b, h1, h2.sys hs, h3.sys hs, h4.sys hs, h5⟩
def LpAt (c : Bool) (L : Nat) (P : Nat → Prop) (w : World) (g : Nat) (v : Value) (p : Lp) : Prop := LpR c L P w v p ∧ Blk w g 25 v.cells.toList
theorem LpAt.grow {g : Nat} (h : LpAt c L P w g v p) (hg : Grow w w') : LpAt c L P w' g v p := ⟨h.1.grow hg, h.2.grow hg⟩
theorem LpAt.sys {g : Nat} (h : LpAt c L P w g v p) (hs : Vc.Sys n w w') : LpAt c L P w' g v p := ⟨h.1.sys hs, h.2.sys hs⟩
theorem LpAt.md {g : Nat} (h : LpAt c L P w g v p) (hm : Md S w w') (hd : ∀ k, P k → ¬ S k) (hg : ¬ S g) : LpAt c L P w' g v p := ⟨h.1.md hm hd, h.2.md hm hg⟩
theorem LpAt.box {k : Value → World → Prop} (h : LpR c L P w v p) (hk : ∀ g w', Grow w w' → w.heap.size ≤ g → g < w'.heap.size → LpAt c L P w' g v p → k (.pointer (some ⟨g, 0, none⟩)) w') : BoxP CC 25 v w k :=
  BoxP.mk fun g w' hg hl hl' hb => hk g w' hg hl hl' ⟨h.grow hg, hb⟩
theorem LpAt.load {g : Nat} {k : Value → World → Prop} (h : LpAt c L P w g v p) (hk : k v w) : LoadP CC 25 (.pointer (some ⟨g, 0, none⟩)) w k := by
  obtain ⟨⟨o, r, b, rfl, _⟩, hb⟩ := h
  exact LoadP.row (cs := [.int .i64 p.vars, o, r, b]) ti25 (by simpa [Value.cells] using hb) rfl hk
def lpO (v : Value) : Value := match v with | .agg ⟨[_, o, _, _]⟩ => o | _ => undef
def lpW (v : Value) : Value := match v with | .agg ⟨[_, _, r, _]⟩ => r | _ => undef
def lpB (v : Value) : Value := match v with | .agg ⟨[_, _, _, b]⟩ => b | _ => undef
theorem LpR.objs (h : LpR c L P w v p) : Mat c L P P w (lpO v) p.objs := by obtain ⟨o, r, b, rfl, h2, h3, h4, h5⟩ := h; exact h2
theorem LpR.rws (h : LpR c L P w v p) : Mat c L P P w (lpW v) p.rows := by obtain ⟨o, r, b, rfl, h2, h3, h4, h5⟩ := h; exact h3
theorem LpR.bnds (h : LpR c L P w v p) : Vec c L P w (lpB v) p.bounds := by obtain ⟨o, r, b, rfl, h2, h3, h4, h5⟩ := h; exact h4
theorem LpR.lim (h : LpR c L P w v p) : -9223372036854775808 ≤ p.vars ∧ p.vars < 9223372036854775808 := by obtain ⟨o, r, b, rfl, h2, h3, h4, h5⟩ := h; exact h5
theorem LpAt.f0 {C : Ctx} (hC : C.P = CC.P) {g : Nat} {k : Value → World → Prop} (h : LpAt c L P w g v p) (hk : k (.int .i64 p.vars) w) : LoadP C 3 (.pointer (some ⟨g, 0, none⟩)) w k := by
  obtain ⟨⟨o, r, b, rfl, _⟩, hb⟩ := h
  exact LoadP.fld (C := C) (o := 0) hb (by rw [hC]; exact ti3) rfl hk
theorem LpAt.f1 {C : Ctx} (hC : C.P = CC.P) {g : Nat} {k : Value → World → Prop} (h : LpAt c L P w g v p) (hk : k (lpO v) w) : LoadP C 22 (.pointer (some ⟨g, 1, none⟩)) w k := by
  obtain ⟨⟨o, r, b, rfl, _⟩, hb⟩ := h
  exact LoadP.fld (C := C) (o := 1) hb (by rw [hC]; exact ti22) rfl hk
theorem LpAt.f2 {C : Ctx} (hC : C.P = CC.P) {g : Nat} {k : Value → World → Prop} (h : LpAt c L P w g v p) (hk : k (lpW v) w) : LoadP C 22 (.pointer (some ⟨g, 2, none⟩)) w k := by
  obtain ⟨⟨o, r, b, rfl, _⟩, hb⟩ := h
  exact LoadP.fld (C := C) (o := 2) hb (by rw [hC]; exact ti22) rfl hk
theorem LpAt.f3 {C : Ctx} (hC : C.P = CC.P) {g : Nat} {k : Value → World → Prop} (h : LpAt c L P w g v p) (hk : k (lpB v) w) : LoadP C 23 (.pointer (some ⟨g, 3, none⟩)) w k := by
  obtain ⟨⟨o, r, b, rfl, _⟩, hb⟩ := h
  exact LoadP.fld (C := C) (o := 3) hb (by rw [hC]; exact ti23) rfl hk
def szV (a b c d : Int) : Value := .agg #[.int .i64 a, .int .i64 b, .int .i64 c, .int .i64 d]
theorem c137 (h : LpR c L P w v p) : CallP CC 137 [v] w fun r w' => Grow w w' ∧ r = szV p.vars p.objs.length p.rows.length p.bounds.length := by
  apply call137
  refine LpAt.box h fun g1 w1 hg1 hl1 hl1' hat => AllocP.mk ti180 fun g2 w2 hg2 hl2 hl2' hb2 => ?_
  have h2 := hat.grow hg2
  refine px rfl (h2.f0 (C := CC) rfl (px rfl (h2.f1 (C := CC) rfl (px h2.1.objs.len (px rfl (h2.f2 (C := CC) rfl (px h2.1.rws.len (px rfl (h2.f3 (C := CC) rfl (px h2.1.bnds.len (px rfl ?_)))))))))))
  refine StoreP.row (cs := [.int .i64 p.vars, .int .i64 p.objs.length, .int .i64 p.rows.length, .int .i64 p.bounds.length]) hb2 ti180 rfl rfl (by simp [Value.oneCell']) fun w4 hu hb4 => ?_
  exact ⟨_, _, rfl, res_row ti180 hb4 rfl, Md.new (hg1.trans hg2) (Md.of hu hb2 (by decide)) (fun k hk => by omega), rfl⟩
theorem c138 {a b e f : Int} : CallP CC 138 [szV a b e f] w fun r w' => Grow w w' ∧ r = szV (min (max a 0) 64) (min (max b 1) 4) (min e 128) (min e 128) := by
  apply call138
  refine BoxP.mk fun g1 w1 hg1 hl1 hl1' hb1 => AllocP.mk ti180 fun g2 w2 hg2 hl2 hl2' hb2 => ?_
  have hb1' : Blk w2 g1 180 [.int .i64 a, .int .i64 b, .int .i64 e, .int .i64 f] := by simpa [szV, Value.cells] using hb1.grow hg2
  have mn : ∀ (a b : Int), minV (.int .i64 a) (.int .i64 b) = some (.int .i64 (min a b)) := by
    intro a b
    simp only [minV]
    congr 2
    split <;> omega
  have mx : ∀ (a b : Int), maxV (.int .i64 a) (.int .i64 b) = some (.int .i64 (max a b)) := by
    intro a b
    simp only [maxV]
    congr 2
    split <;> omega
  refine px rfl (LoadP.fld (o := 2) hb1' ti3 rfl (px (mn _ _) (px rfl (LoadP.fld (o := 0) hb1' ti3 rfl (px (mx _ _) (px (mn _ _) (px rfl (LoadP.fld (o := 1) hb1' ti3 rfl (px (mx _ _) (px (mn _ _) (px rfl ?_)))))))))))
  refine StoreP.row (cs := [.int .i64 (min (max a 0) 64), .int .i64 (min (max b 1) 4), .int .i64 (min e 128), .int .i64 (min e 128)]) hb2 ti180 rfl rfl (by simp [Value.oneCell']) fun w4 hu hb4 => ?_
  exact ⟨_, _, rfl, res_row ti180 hb4 rfl, Md.new (hg1.trans hg2) (Md.of hu hb2 (by decide)) (fun k hk => by omega), rfl⟩
theorem c77 (h : LpR c L P w v p) : CallP CC 77 [v] w fun r w' => Grow w w' ∧ r = .bool (validP p) := by
  have vl1 : ∀ r ∈ p.objs, r.length < 9223372036854775808 := fun r hr => by have := h.objs.vlen hr; omega
  have vl2 : ∀ r ∈ p.rows, r.length < 9223372036854775808 := fun r hr => by have := h.rws.vlen hr; omega
  apply call77
  refine LpAt.box h fun g1 w1 hg1 hl1 hl1' hat => hat.load ((c137 hat.1).mono ?_)
  rintro _ w2 ⟨hg2, rfl⟩
  refine AllocP.mk ti180 fun g3 w3 hg3 hl3 hl3' hb3 => ?_
  refine StoreP.row (cs := [.int .i64 p.vars, .int .i64 p.objs.length, .int .i64 p.rows.length, .int .i64 p.bounds.length]) hb3 ti180 rfl rfl (by simp [Value.oneCell']) fun w5 hu5 hb5 => ?_
  have s1 := hg1.size
  have s2 := hg2.size
  have hm5 := Md.of hu5 hb3 (by decide)
  have hg15 : Grow w1 w5 := Md.new (hg2.trans hg3) hm5 fun k hk => by omega
  have hat5 := hat.grow hg15
  have hg05 := hg1.trans hg15
  have lq : ∀ a b : Int, binV (.int .i64) .leq (.int .i64 a) (.int .i64 b) = some (.bool (decide (a ≤ b))) := fun _ _ => rfl
  have pf : ∀ x : Value, pickV (.bool false) x (.bool false) = some (.bool false) := fun _ => rfl
  have pt : ∀ x : Value, pickV (.bool true) x (.bool false) = some x := fun _ => rfl
  have fa0 : fieldAddrV (tyOf tyTab 25) 0 (.pointer (some ⟨g1, 0, none⟩)) = some (.pointer (some ⟨g1, 0, none⟩)) := rfl
  have fa1 : fieldAddrV (tyOf tyTab 25) 1 (.pointer (some ⟨g1, 0, none⟩)) = some (.pointer (some ⟨g1, 1, none⟩)) := rfl
  have fa2 : fieldAddrV (tyOf tyTab 25) 2 (.pointer (some ⟨g1, 0, none⟩)) = some (.pointer (some ⟨g1, 2, none⟩)) := rfl
  refine ⟨fun v _ => v = szV p.vars p.objs.length p.rows.length p.bounds.length, fun v _ => v = szV p.vars p.objs.length p.rows.length p.bounds.length,
    fun v _ => v = szV (min (max p.vars 0) 64) (min (max (p.objs.length : Int) 1) 4) (min (p.rows.length : Int) 128) (min (p.rows.length : Int) 128), fun u _ => u = .bool (validSz p), fun u _ => u = lpO v, fun u _ => u = .int .i64 ((colsOf p.objs : Nat) : Int), fun u _ => u = .int .i64 p.vars, fun u _ => u = lpW v,
    fun u _ => u = .int .i64 ((colsOf p.rows : Nat) : Int), fun u _ => u = .int .i64 p.vars, ?_, ?_, ?_, ?_, ?_, ?_, ?_, ?_, ?_, ?_, ?_, ?_, ?_, ?_, ?_, ?_, ?_, ?_, ?_⟩
  · exact fun w6 hg => LoadP.row ti180 (hb5.grow hg) rfl ⟨Grow.refl _, fun _ _ => rfl⟩
  · exact fun _ w6 hg => LoadP.row ti180 (hb5.grow hg) rfl ⟨Grow.refl _, fun _ _ => rfl⟩
  · rintro _ _ w6 hg rfl
    exact fc c138 fun r _ _ hr _ => hr
  · rintro _ _ _ w6 hg rfl rfl rfl
    exact eq180 ⟨Grow.refl _, fun _ _ => rfl⟩
  · exact fun _ _ _ _ _ _ _ _ _ _ _ => ⟨_, fa1⟩
  · rintro _ _ _ _ w6 hg _ _ _ _ _
    rw [fa1]; exact (hat5.grow hg).f1 (C := CC) rfl ⟨Grow.refl _, fun _ _ => rfl⟩
  · rintro _ _ _ _ v12 w6 hg _ _ _ _ h12 ht
    rw [h12 ht]
    exact fc (c139 (hat5.grow hg).1.objs vl1) fun r _ _ hr _ => hr
  · exact fun _ _ _ _ _ _ _ _ _ _ _ _ _ => ⟨_, fa0⟩
  · rintro _ _ _ _ _ _ w6 hg _ _ _ _ _
    rw [fa0]; exact (hat5.grow hg).f0 (C := CC) rfl ⟨Grow.refl _, fun _ _ => rfl⟩
  · rintro _ _ _ _ _ v13 v15 w6 hg _ _ _ _ _ h13 h15 ht
    rw [h13 ht, h15 ht]; exact ⟨_, rfl⟩
  · rintro _ _ _ _ _ v13 v15 w6 hg _ _ _ rfl _ h13 h15
    cases e1 : validSz p with
    | false => exact ⟨_, rfl⟩
    | true =>
      rw [e1] at h13 h15
      rw [h13 rfl, h15 rfl]; exact ⟨_, rfl⟩
  · exact fun _ _ _ _ _ _ _ _ _ _ _ _ _ _ _ _ _ => ⟨_, fa2⟩
  · rintro _ _ _ _ _ _ _ w6 hg _ _ _ _ _ _ _ _
    rw [fa2]; exact (hat5.grow hg).f2 (C := CC) rfl ⟨Grow.refl _, fun _ _ => rfl⟩
  · rintro _ _ _ _ _ _ _ v20 w6 hg _ _ _ _ _ _ _ h20 ht
    rw [h20 ht]
    exact fc (c139 (hat5.grow hg).1.rws vl2) fun r _ _ hr _ => hr
  · exact fun _ _ _ _ _ _ _ _ _ _ _ _ _ _ _ _ _ _ _ => ⟨_, fa0⟩
  · rintro _ _ _ _ _ _ _ _ _ w6 hg _ _ _ _ _ _ _ _
    rw [fa0]; exact (hat5.grow hg).f0 (C := CC) rfl ⟨Grow.refl _, fun _ _ => rfl⟩
  · rintro _ _ _ _ _ _ _ _ v21 v23 w6 hg _ _ _ _ _ _ _ _ h21 h23 ht
    rw [h21 ht, h23 ht]; exact ⟨_, rfl⟩
  · rintro _ _ _ v9 _ v13 v15 _ v21 v23 w6 hg _ _ _ rfl _ h13 h15 _ h21 h23
    cases e1 : validSz p with
    | false => exact ⟨_, rfl⟩
    | true =>
      rw [e1] at h13 h15 h21 h23
      have h13 := h13 rfl
      have h15 := h15 rfl
      subst h13; subst h15
      simp only [lq, pt, gd, Option.getD_some] at h21 h23 ⊢
      cases e2 : decide ((colsOf p.objs : Int) ≤ p.vars) with
      | false => exact ⟨_, rfl⟩
      | true =>
        rw [e2] at h21 h23
        rw [h21 rfl, h23 rfl]; exact ⟨_, rfl⟩
  · rintro _ _ _ v9 _ v13 v15 _ v21 v23 _ w6 hg _ _ _ rfl _ h13 h15 _ h21 h23
    refine ⟨hg05.trans hg, ?_⟩
    unfold validP
    cases e1 : validSz p with
    | false => rfl
    | true =>
      rw [e1] at h13 h15 h21 h23
      have h13 := h13 rfl
      have h15 := h15 rfl
      subst h13; subst h15
      simp only [lq, pt, gd, Option.getD_some] at h21 h23 ⊢
      cases e2 : decide ((colsOf p.objs : Int) ≤ p.vars) with
      | false => rfl
      | true =>
        rw [e2] at h21 h23
        rw [h21 rfl, h23 rfl]; rfl
theorem c28 (h : LpR c L P w v p) (hx : Vec c' M Q w b xs) (h1 : 2 ≤ L) (h2 : 2 ≤ M) (hN : max (colsOf p.objs) xs.length ≤ n) (hn : n < 1099511627776) (h4 : 2 + (n + 1) * (L + M + 1) < 268435456) :
    CallP CC 28 [v, b] w fun r w' => Grow w w' ∧ VecO true (2 + n * (L + M + 1)) w.heap.size w' r (mulVec p.objs xs) := by
  apply call28
  refine LpAt.box h fun g1 w1 hg1 hl1 hl1' hat => px rfl (hat.f1 (C := CC) rfl ((c86 hat.1.objs (hx.grow hg1) h1 h2 hN hn h4).mono ?_))
  rintro r w2 ⟨hg2, hr⟩
  exact ⟨hg1.trans hg2, hr.down hg1.size⟩
theorem c29 (h : LpR c L P w v p) (hx : Vec c' M Q w a xs) (hy : Vec d K Q w b ys) (h1 : 2 ≤ L) (h2 : 2 ≤ M) (h3 : 2 ≤ K) (hN : max (colsOf p.objs) (max xs.length ys.length) ≤ n) (hn : n < 1099511627776) (h4 : 2 + (n + 1) * (L + M + K + 1) < 268435456) (hol : p.objs.length ≤ 1099511627776) :
    CallP CC 29 [v, a, b] w fun r w' => Grow w w' ∧ r = .int .i64 (cmpP p xs ys) := by
  have q1 : (n + 1) * (L + M + 1) ≤ (n + 1) * (L + M + K + 1) := Nat.mul_le_mul_left _ (by omega)
  have q2 : (n + 1) * (L + K + 1) ≤ (n + 1) * (L + M + K + 1) := Nat.mul_le_mul_left _ (by omega)
  have q3 : n * (L + M + 1) ≤ (n + 1) * (L + M + 1) := Nat.mul_le_mul_right _ (by omega)
  have q4 : n * (L + K + 1) ≤ (n + 1) * (L + K + 1) := Nat.mul_le_mul_right _ (by omega)
  have q5 : 1 * (L + M + K + 1) ≤ (n + 1) * (L + M + K + 1) := Nat.mul_le_mul_right _ (by omega)
  apply call29
  refine LpAt.box h fun g1 w1 hg1 hl1 hl1' hat => ?_
  have hx1 := hx.grow hg1
  have hy1 := hy.grow hg1
  refine ⟨fun u _ => u = v, fun u w => VecO true (2 + n * (L + M + 1)) 0 w u (mulVec p.objs xs), fun u _ => u = v, fun u w => VecO true (2 + n * (L + K + 1)) 0 w u (mulVec p.objs ys),
    fun u _ => u = .int .i64 (vcmp (mulVec p.objs xs) (mulVec p.objs ys)), ?_, ?_, ?_, ?_, ?_, ?_⟩
  · exact fun w2 hg => (hat.grow hg).load ⟨Grow.refl _, fun _ _ => rfl⟩
  · rintro _ w2 hg rfl
    exact fc (c28 (hat.grow hg).1 (hx1.grow hg) h1 h2 (by omega) hn (by omega)) fun r _ _ hr hT => (hr.down (Nat.zero_le _)).grow hT
  · exact fun _ _ w2 hg => (hat.grow hg).load ⟨Grow.refl _, fun _ _ => rfl⟩
  · rintro _ _ _ w2 hg rfl _ rfl
    exact fc (c28 (hat.grow hg).1 (hy1.grow hg) h1 h3 (by omega) hn (by omega)) fun r _ _ hr hT => (hr.down (Nat.zero_le _)).grow hT
  · rintro _ v10 _ v13 w2 hg _ h10 _ h13
    exact fc (c38 (h10.vec (by simp [mulVec]; omega)) (h13.vec (by simp [mulVec]; omega)) (by omega) (by omega) (by omega) (by omega)) fun r _ _ hr _ => hr
  · rintro _ _ _ _ _ _ w2 hg _ _ _ _ rfl
    refine px rfl (cB (fun hne => ?_) (fun he => ?_))
    · have : vcmp (mulVec p.objs xs) (mulVec p.objs ys) ≠ 0 := by simpa using hne
      exact ⟨hg1.trans hg, by unfold cmpP; rw [if_pos this]⟩
    · have : vcmp (mulVec p.objs xs) (mulVec p.objs ys) = 0 := by simpa using he
      refine (c38 (hy1.grow hg) (hx1.grow hg) h3 h2 (by omega) (by omega)).mono ?_
      rintro r w3 ⟨hg3, rfl⟩
      exact ⟨(hg1.trans hg).trans hg3, by unfold cmpP; rw [if_neg (by simp [this])]⟩
end
end Go.Proofs.YtaajkcngcalgoaaGreat
namespace Go.Proofs.YtaajkcngcalgoaaGreat
open Go Go.Vc Go.Spx
attribute [local irreducible] Tryz.prog
section
variable {c c' d : Bool} {L M K base n : Nat} {w w' w'' : World} {v o s u a b q : Value} {x y z : Rat} {xs ys row : List Rat} {m m' : List (List Rat)} {S P P' Q Q' : Nat → Prop} {cs vs : List Value} {p : Lp}
theorem LoadP.cy {y : Nat} {t : TypeId} {x : Value} {k : Value → World → Prop} (h : LoadP CC t x w k) : LoadP (CY y) t x w k := h
theorem StoreP.cy {y : Nat} {t : TypeId} {x v : Value} {k : World → Prop} (h : StoreP CC t x v w k) : StoreP (CY y) t x v w k := by
  obtain ⟨w', h1, h2, h3⟩ := h
  exact ⟨w', h1, ⟨h2.size, fun k o _ ho hr => h2.obj k o (by simp) ho hr⟩, h3⟩
theorem rowAt_get {i : Nat} (h : i < m.length) : m[i]? = some (Spx.rowAt m i) := by
  unfold Spx.rowAt; rw [List.getD_eq_getElem?_getD, List.getElem?_eq_getElem h]; rfl
theorem iter200 {w0 : World} {g : Nat} (hL : 1 ≤ L) :
    Iter CC 200 [.pointer (some ⟨g, 0, none⟩)] w0 (fun _ w => LpAt c L P w g v p) p.rows.length
      (fun k w vs => ∃ u r, vs = [u, r] ∧ Vec c L P w u (Spx.rowAt p.rows k) ∧ QR c L w r (qat p.bounds k)) := by
  intro y J Jx hy hS hJ hJx hyield w hw
  have hc : CallP (CY y) 200 [.func (.yield y) #[] #[], .pointer (some ⟨g, 0, none⟩)] w fun _ w' => J p.rows.length w' ∨ Jx w' := by
    apply call200
    have h0 := hS 0 w hw
    have hlim := h0.1.rws.lim
    refine px rfl (h0.f2 (C := CY y) rfl (px h0.1.rws.len ?_))
    refine ⟨fun v w' => ∃ k : Nat, v = .int .i64 k ∧ k ≤ p.rows.length ∧ J k w', fun v _ => p.rows.length - (vint v).toNat, ⟨0, rfl, Nat.zero_le _, hw⟩, ?_⟩
    rintro _ - w3 ⟨k, rfl, hk, hJk⟩
    refine px rfl (cD (fun hlt => ?_) (fun hge => ?_))
    · have hkN : k < p.rows.length := by omega
      have h3 := hS k w3 hJk
      obtain ⟨ad, had⟩ := h3.1.rws.idx (k := .i64) hkN
      refine px had (h3.1.rws.load (C := CY y) rfl had (rowAt_get hkN) fun u hu => ?_)
      -- the rest, once the row's bound lies in its variable
      have fin : ∀ {w5 : World} {r : Value}, Grow w3 w5 → QR c L w5 r (qat p.bounds k) → callV (CY y) (.func (.yield y) #[] #[]) [u, r] w5 fun x27 w_10 =>
          ∃ x28, unV .not x27 = some x28 ∧ CondP x28 (J p.rows.length w_10 ∨ Jx w_10) (
            ∃ x29, binV (.int .i64) .add (.int .i64 (k : Int)) (.int .i64 1) = some x29 ∧
            (∃ k' : Nat, x29 = .int .i64 k' ∧ k' ≤ p.rows.length ∧ J k' w_10) ∧ p.rows.length - (vint x29).toNat < p.rows.length - (vint (.int .i64 (k : Int))).toNat) := by
        intro w5 r hg5 hr
        have h := hyield k w5 [u, r] hkN (hJ k _ _ hJk hg5) ⟨u, r, rfl, hu.grow hg5, hr⟩
        obtain ⟨f, tmps, assign, body, he, hrr⟩ := h
        refine ⟨f, tmps, assign, body, he, hrr.mono ?_⟩
        rintro e w4 ⟨v, rfl, hn, hv⟩
        refine ⟨v, rfl, hn, ?_⟩
        rcases hv with ⟨rfl, hv⟩ | ⟨rfl, hv⟩
        · refine px rfl (cF rfl (pi rfl (by omega) ⟨⟨k + 1, by simp, by omega, hv⟩, ?_⟩))
          simp only [vint_int]; omega
        · exact px rfl (cT rfl (.inr hv))
      refine AllocP.mk (C := CY y) ti30 fun g5 w4 hg4 hl4 hl4' hb4 => ?_
      have h4 := h3.grow hg4
      refine px rfl (h4.f3 (C := CY y) rfl (px h4.1.bnds.len (px rfl (cD (fun hl => ?_) (fun hl => ?_)))))
      · have hkb : k < p.bounds.length := by omega
        obtain ⟨ad2, had2⟩ := h4.1.bnds.idx (k := .i64) hkb
        refine px rfl (h4.f3 (C := CY y) rfl (px had2 ?_))
        refine LoadP.cy (h4.1.bnds.load (k := .i64) (i := k) had2 (qat_get hkb) fun r hr => ?_)
        refine StoreP.cy (storeR hb4 rfl hr fun w5 hm5 hr5 => ?_)
        exact LoadP.cy <| hr5.load fun r hr => fin (Md.new hg4 hm5 fun k hk => by omega) hr
      · have hr4 : ResR c L w4 g5 (qat p.bounds k) := by
          rw [qat_none (by omega)]; exact ResR.of (cs := zeroQ) hb4 (QR.zero hL)
        exact LoadP.cy <| hr4.load fun r hr => fin hg4 hr
    · have : k = p.rows.length := by omega
      subst this
      exact .inl hJk
  refine Calls.mono hc ?_
  rintro e w' ⟨v, rfl, hn, hv⟩
  exact ⟨⟨v, rfl⟩, hv⟩
theorem c160 (h : LpR c L P w v p) : CallP CC 160 [v] w fun r w' => Grow w w' ∧ ∃ g, w.heap.size ≤ g ∧ g < w'.heap.size ∧ r = .func (.func 200) #[] #[.pointer (some ⟨g, 0, none⟩)] ∧ LpAt c L P w' g v p := by
  apply call160
  exact LpAt.box h fun g1 w1 hg1 hl1 hl1' hat => px rfl ⟨hg1, g1, hl1, hl1', rfl, hat⟩
theorem slack_step {k : Nat} (hk : k < p.rows.length) : (slack p xs).take k ++ [qat p.bounds k - dot (Spx.rowAt p.rows k) xs] = (slack p xs).take (k + 1) := by
  rw [List.take_add_one]
  unfold slack
  rw [List.getElem?_map, List.getElem?_range hk]; rfl
theorem rowAt_mem {k : Nat} (hk : k < m.length) : Spx.rowAt m k ∈ m := List.mem_of_getElem? (rowAt_get hk)
theorem c94 (h : LpR c L P w v p) (hx : Vec c' M Q w b xs) (h1 : 2 ≤ L) (h2 : 2 ≤ M) (hN : max (colsOf p.rows) xs.length ≤ n) (hn : n < 1099511627776) (h4 : L + 3 + (n + 1) * (L + M + 1) < 268435456) :
    CallP CC 94 [v, b] w fun r w' => Grow w w' ∧ VecO true (L + 3 + n * (L + M + 1)) w.heap.size w' r (slack p xs) := by
  have hone := vcells_one hx.one
  have q5 : n * (L + M + 1) ≤ (n + 1) * (L + M + 1) := Nat.mul_le_mul_right _ (by omega)
  apply call94
  refine LpAt.box h.old fun g2 w1 hg1 hl2 hl2' hat => BoxP.mk fun g3 w2 hg2 hl3 hl3' hb3 => AllocP.mk ti23 fun g4 w3 hg3 hl4 hl4' hb4 => ?_
  rw [hone] at hb3
  have hg03 := (hg1.trans hg2).trans hg3
  have s1 := hg1.size
  have s2 := hg2.size
  have s3 := hg3.size
  have hat3 := (hat.grow hg2).grow hg3
  refine hat3.load ((c160 hat3.1).mono ?_)
  rintro _ w5 ⟨hg5, g1, hl1, hl1', rfl, hP⟩
  have s5 := hg5.size
  have hg05 := hg03.trans hg5
  have hb35 := (hb3.grow hg3).grow hg5
  have hb45 := hb4.grow hg5
  have hx5 := hx.old.grow hg05
  have hL : 1 ≤ L := by omega
  refine ⟨200, _, rfl, rfl, _, _, _, iter200 (c := c) (L := L) (P := fun k => k < w.heap.size) (v := v) (p := p) hL, fun k w' vs ⟨u, r, h, _⟩ => by rw [h]; rfl,
    fun k w' => Md (fun k => w.heap.size ≤ k) w5 w' ∧ LpAt c L (fun k => k < w.heap.size) w' g1 v p ∧ Blk w' g3 23 [b] ∧ Vec c' M (fun k => k < w.heap.size) w' b xs ∧ ∃ o, Blk w' g4 23 [o] ∧ VecO true (L + 3 + n * (L + M + 1)) w.heap.size w' o ((slack p xs).take k),
    fun _ _ => False, ?_, fun _ _ h => h.2.1, ?_, ?_, fun _ _ h => h.elim⟩
  · intro w' hs
    exact ⟨Md.sys hs hg05.size, hP.sys hs, hb35.sys hs, hx5.sys hs, _, hb45.sys hs, VecO.nil⟩
  · rintro k hk x9 x10 w6 ⟨hm6, hP6, hb36, hx6, o, hb46, ho6⟩ ⟨u, r, hv, hu, hr⟩
    simp only [List.cons.injEq, and_true] at hv
    obtain ⟨rfl, rfl⟩ := hv
    refine AllocP.mk ti30 fun g6 w7 hg7 hl7 hl7' hb7 => storeR hb7 rfl (hr.grow hg7) fun w8 hm8 hr8 w9 hs9 => ?_
    have hg68 : Grow w6 w8 := Md.new hg7 hm8 fun k hk => by omega
    have z6 := hm6.size
    have z68 := hg68.size
    have z9 := hs9.size
    have hu9 := (hu.grow hg68).sys hs9
    have hr9 := hr8.sys hs9
    have hP9 := (hP6.grow hg68).sys hs9
    have hb39 := (hb36.grow hg68).sys hs9
    have hb49 := (hb46.grow hg68).sys hs9
    have hx9 := (hx6.grow hg68).sys hs9
    have ho9 := (ho6.grow hg68).sys hs9
    have hm9 : Md (fun k => w.heap.size ≤ k) w5 w9 := (hm6.trans (Md.grow hg68)).trans (Md.sys hs9 hg05.size)
    have hno4 : o.ownBlock ≠ some g4 := ho9.ne hb49 (by decide)
    have hno3 : o.ownBlock ≠ some g3 := ho9.ne hb39 (by decide)
    have hno1 : o.ownBlock ≠ some g1 := ho9.ne hP9.2 (by decide)
    have hbk := ho9.block
    have hS : ∀ k, (k = g4 ∨ o.ownBlock = some k) → w.heap.size ≤ k ∧ k < w9.heap.size := by
      rintro k (rfl | h)
      · exact ⟨by omega, hb49.lt⟩
      · exact hbk k h
    have hlr := le_colsOf (rowAt_mem hk)
    have hmul : (max (Spx.rowAt p.rows k).length xs.length + 1) * (L + M + 1) ≤ (n + 1) * (L + M + 1) := Nat.mul_le_mul_right _ (by omega)
    have hmul2 : max (Spx.rowAt p.rows k).length xs.length * (L + M + 1) ≤ n * (L + M + 1) := Nat.mul_le_mul_right _ (by omega)
    refine ⟨PhS (fun k => k = g4 ∨ o.ownBlock = some k), fun l w' => match l with
        | [] => True
        | [v] => Md (fun k => k = g4 ∨ o.ownBlock = some k) w9 w' ∧ Blk w' g4 23 [o] ∧ VecO true (L + 3 + n * (L + M + 1)) w.heap.size w' v ((slack p xs).take (k + 1)) ∧ ∀ g, v.ownBlock = some g → g = g4 → False
        | _ => Md (fun k => k = g4 ∨ o.ownBlock = some k) w9 w' ∧ ∃ v, Blk w' g4 23 [v] ∧ VecO true (L + 3 + n * (L + M + 1)) w.heap.size w' v ((slack p xs).take (k + 1)),
      PhS.grow _, PhS.trans _, fun _ _ => trivial, fun v _ => v = o, fun v s => QR c L s.2 v (qat p.bounds k), fun v _ => v = b, fun v s => QR true (2 + n * (L + M + 1)) s.2 v (dot (Spx.rowAt p.rows k) xs),
      fun v s => QR true (L + 3 + n * (L + M + 1)) s.2 v (qat p.bounds k - dot (Spx.rowAt p.rows k) xs),
      fun v s => ∃ u, QR true (L + 3 + n * (L + M + 1)) s.2 u (qat p.bounds k - dot (Spx.rowAt p.rows k) xs) ∧ One w9.heap.size 30 s.2 v u.cells.toList, fun _ _ => True, fun _ _ => True, ?_, ?_, ?_, ?_, ?_, ?_, ?_, ?_, ?_⟩
    · intro n w10 hn ht
      obtain ⟨rfl, hg⟩ := ht.z hn
      exact LoadP.fld (hb49.grow hg) ti23 rfl ⟨Grow.refl _, fun _ _ _ => rfl⟩
    · intro _ n w10 hn ht
      obtain ⟨rfl, hg⟩ := ht.z hn
      exact (hr9.grow hg).load fun r hr => ⟨Grow.refl _, fun m w11 ht => hr.md ht.md⟩
    · intro _ _ n w10 hn ht
      obtain ⟨rfl, hg⟩ := ht.z hn
      exact LoadP.fld (hb39.grow hg) ti23 rfl ⟨Grow.refl _, fun _ _ _ => rfl⟩
    · rintro _ _ v14 n w10 hn ht e14
      obtain ⟨rfl, hg⟩ := ht.z hn
      rw [e14]
      exact fg (c34 (hu9.grow hg) (hx9.grow hg) h1 h2 (by omega) (by omega)) fun r w5 m w6 hr ht => (hr.le (by omega)).md ht.md
    · intro _ _ _ _ n w10 hn ht h12 _ h15
      exact fg (q129 h12 h15 h1 (by omega) (by omega) (by omega)) fun r w5 m w6 hr ht => (hr.le (by omega)).md ht.md
    · rintro _ _ _ _ v16 n w10 hn ht _ _ _ h16
      obtain ⟨rfl, hg⟩ := ht.z hn
      exact litQ h16 fun s w8 hg8 h1 => ⟨hg8, fun m w9 ht9 => ⟨v16, (h16.grow hg8).md ht9.md, (h1.md ht9.md fun k hk => by have := (hS k hk).2; have := hg.size; omega) |> fun ⟨g, a, b, c⟩ => ⟨g, by have := hg.size; omega, b, c⟩⟩⟩
    · rintro v11 _ _ _ _ v17 n w10 hn ht rfl _ e11 _ _ _ _ ⟨u, hu, h1⟩
      have hg := ht.z0
      rw [e11]
      have hlim := hP9.1.rws.lim
      refine appQ1 (ho9.grow hg) h1 hu (by have := hg.size; omega) (by simp [slack]; omega) fun o' w11 ho' hm hf => ?_
      have hm' : Md (fun k => k = g4 ∨ o.ownBlock = some k) w10 w11 := hm.mono fun k hk => .inr hk
      refine ⟨PhS.next hm', fun _ _ _ => trivial, fun w12 hg12 => ⟨((Md.grow hg).trans hm').trans (Md.grow hg12), ((hb49.grow hg).md hm hno4).grow hg12, ?_, ?_⟩⟩
      · rw [slack_step hk] at ho'; exact ho'.grow hg12
      · rintro g hg' rfl
        rcases hf g hg' with h | h
        · exact hno4 h
        · have := hb49.lt; have := hg.size; omega
    · rintro _ _ _ _ _ _ v18 n w10 hn ht rfl ⟨hm10, hb410, ho10, hne⟩ _ _ _ _ _ _ _
      refine StoreP.var ti23 hb410 ho10.one fun w11 hu hb411 => ?_
      have hm11 := Md.of hu hb410 (by decide)
      have hm' : Md (fun k => k = g4 ∨ o.ownBlock = some k) w10 w11 := hm11.mono fun k hk => .inl hk
      exact ⟨PhS.next hm', fun _ _ _ => trivial, fun w12 hg12 => ⟨(hm10.trans hm').trans (Md.grow hg12), v18, hb411.grow hg12, (ho10.md hm11 fun k hk e => hne k hk e).grow hg12⟩⟩
    · rintro _ _ _ _ _ _ _ _ _ w10 ht _ _ _ _ _ _ _ _ ⟨hm10, v, hb410, ho10⟩ w11 hs11
      have hm911 : Md (fun k => w.heap.size ≤ k) w9 w11 := (hm10.mono fun k hk => (hS k hk).1).trans (Md.sys hs11 hg05.size)
      refine ⟨hm9.trans hm911, (hP9.md hm10 ?_ ?_).sys hs11, (hb39.md hm10 ?_).sys hs11, (hx9.md hm10 ?_).sys hs11, v, hb410.sys hs11, ho10.sys hs11⟩
      · rintro k hk h
        have := (hS k h).1; omega
      · rintro (rfl | h)
        · omega
        · exact hno1 h
      · rintro (rfl | h)
        · omega
        · exact hno3 h
      · rintro k hk h
        have := (hS k h).1; omega
  · rintro w6 ⟨hm6, _, _, _, o, hb46, ho6⟩
    refine LoadP.fld hb46 ti23 rfl (StoreP.var ti23 hb46 ho6.one fun w7 hu hb7 w8 hs8 => ?_)
    have hm7 := Md.of hu hb46 (by decide)
    have hne := ho6.ne hb46 (by decide)
    refine ⟨_, _, rfl, res_one ti23 (hb7.sys hs8), Md.new hg05 ((hm6.trans (hm7.mono fun k hk => by omega)).trans (Md.sys hs8 (Nat.le_refl _))) (fun _ h => h), ?_⟩
    have := (ho6.md hm7 fun k hk e => hne (by rw [← e]; exact hk)).sys hs8
    rwa [List.take_of_length_le (by simp [slack])] at this
theorem c35 (h : LpR c L P w v p) (hx : Vec c' M Q w a xs) (h1 : 2 ≤ L) (h2 : 2 ≤ M) (hM : M ≤ 268435456) (hN : max (colsOf p.rows) xs.length ≤ n) (hn : n < 1099511627776) (h4 : L + 3 + (n + 1) * (L + M + 1) < 268435456) :
    CallP CC 35 [v, a] w fun r w' => Grow w w' ∧ r = .bool (feasP p xs) := by
  have q5 : n * (L + M + 1) ≤ (n + 1) * (L + M + 1) := Nat.mul_le_mul_right _ (by omega)
  apply call35
  refine LpAt.box h fun g1 w1 hg1 hl1 hl1' hat => ?_
  have fa0 : fieldAddrV (tyOf tyTab 25) 0 (.pointer (some ⟨g1, 0, none⟩)) = some (.pointer (some ⟨g1, 0, none⟩)) := rfl
  have el : lenV (tyOf tyTab 23) a = some (.int .i64 xs.length) := hx.len
  have lq : ∀ a b : Int, binV (.int .i64) .leq (.int .i64 a) (.int .i64 b) = some (.bool (decide (a ≤ b))) := fun _ _ => rfl
  refine ⟨fun u _ => u = v, fun u _ => u = .bool (validP p), fun u _ => u = .int .i64 p.vars, ?_, ?_, ?_, ?_, ?_, ?_, ?_, ?_⟩
  · exact fun w2 hg => (hat.grow hg).load ⟨Grow.refl _, fun _ _ => rfl⟩
  · rintro _ w2 hg rfl
    exact fc (c77 (hat.grow hg).1) fun r _ _ hr _ => hr
  · exact fun _ _ _ _ _ _ _ => ⟨_, el⟩
  · exact fun _ _ _ _ _ _ _ => ⟨_, fa0⟩
  · rintro _ _ w2 hg _ _ _
    rw [fa0]; exact (hat.grow hg).f0 (C := CC) rfl ⟨Grow.refl _, fun _ _ => rfl⟩
  · rintro _ _ v16 w2 hg _ _ h16 ht
    rw [el, h16 ht]; exact ⟨_, rfl⟩
  · rintro _ v11 v16 w2 hg _ rfl h16
    cases e1 : validP p with
    | false => exact ⟨_, rfl⟩
    | true =>
      rw [e1] at h16
      rw [el, h16 rfl]; exact ⟨_, rfl⟩
  · rintro _ v11 v16 _ w2 hg2 _ rfl h16
    have e0 : gd (pickV (.bool (validP p)) (gd (binV (.int .i64) .leq (gd (lenV (tyOf tyTab 23) a)) v16)) (.bool false)) = .bool (validP p && decide ((xs.length : Int) ≤ p.vars)) := by
      cases e1 : validP p with
      | false => rfl
      | true =>
        rw [e1] at h16
        rw [el, h16 rfl]; rfl
    rw [e0]
    have hg02 := hg1.trans hg2
    refine (hat.grow hg2).load ((c94 (hat.grow hg2).1 (hx.grow hg02) h1 h2 hN hn h4).mono ?_)
    rintro r w3 ⟨hg3, hr⟩
    obtain ⟨a1, ca, ea, _⟩ := hx.shape
    obtain ⟨a2, cr, er⟩ := hr.len
    have hlim := (hat.grow hg2).1.rws.lim
    refine LitP.mk (C := CC) (sz := 1) sl22 ti23 rfl (by decide) (by decide) (cs := [a, r]) (by rw [ea, er]; rfl) fun g4 w4 hg4 hl4 hl4' hb4 => ?_
    refine px rfl ?_
    have hrv := (hr.grow hg4).vec (by simp [slack]; omega)
    have hg24 := hg3.trans hg4
    have hx4 := hx.grow (hg02.trans hg24)
    refine ⟨fun y5 y25 w' => ∃ i : Nat, y25 = .int .i64 i ∧ i ≤ 2 ∧ y5 = .bool (validP p && decide ((xs.length : Int) ≤ p.vars)) ∧ Grow w4 w' ∧ (1 ≤ i → anyGt [] xs = false) ∧ (2 ≤ i → anyGt [] (slack p xs) = false), fun _ k _ => 2 - (vint k).toNat,
      ⟨0, rfl, by omega, rfl, Grow.refl _, fun h => by omega, fun h => by omega⟩, ?_⟩
    rintro _ _ - w5 ⟨i, rfl, hi, rfl, hg5, hi1, hi2⟩
    have hg05 := (hg02.trans hg24).trans hg5
    refine px rfl (cD (fun hlt => ?_) (fun hge => ?_))
    · rcases (by omega : i = 0 ∨ i = 1) with rfl | rfl
      · refine px rfl (LoadP.fld (o := 0) (hb4.grow hg5) ti23 rfl ((c95 (Vec.nil (c := true) (L := 2)) (hx4.grow hg5) (by omega) h2 (by omega) hM).mono ?_))
        rintro _ w6 ⟨hg6, pl, rfl⟩
        refine px rfl (px rfl (cB (fun hb => ?_) (fun hb => ?_)))
        · exact ⟨hg05.trans hg6, by unfold feasP; rw [hb]; simp⟩
        · refine pi rfl (by omega) ⟨⟨1, rfl, by omega, rfl, hg5.trans hg6, fun _ => hb, fun h => by omega⟩, by simp only [vint_int]; omega⟩
      · refine px rfl (LoadP.fld (o := 1) (hb4.grow hg5) ti23 rfl ((c95 (Vec.nil (c := true) (L := 2)) (hrv.grow hg5) (by omega) (by omega) (by omega) (by omega)).mono ?_))
        rintro _ w6 ⟨hg6, pl, rfl⟩
        refine px rfl (px rfl (cB (fun hb => ?_) (fun hb => ?_)))
        · exact ⟨hg05.trans hg6, by unfold feasP; rw [hb]; simp⟩
        · refine pi rfl (by omega) ⟨⟨2, rfl, by omega, rfl, hg5.trans hg6, fun _ => hi1 (by omega), fun _ => hb⟩, by simp only [vint_int]; omega⟩
    · have : i = 2 := by omega
      subst this
      refine ⟨hg05, ?_⟩
      unfold feasP
      rw [hi1 (by omega), hi2 (by omega)]; simp
end
end Go.Proofs.YtaajkcngcalgoaaGreat
namespace Go.Proofs.YtaajkcngcalgoaaGreat
open Go Go.Vc Go.Spx
attribute [local irreducible] Tryz.prog
def IntO (base : Nat) (w : World) (v : Value) (l : List Nat) : Prop := Vc.Own w base 3 1 v l.length (l.map fun (k : Nat) => .int .i64 (k : Nat))
def BoolO (base : Nat) (w : World) (v : Value) (l : List Bool) : Prop := Vc.Own w base 4 1 v l.length (l.map fun b => .bool b)
section
variable {c c' d : Bool} {L M K base n : Nat} {w w' w'' : World} {v o u a b q : Value} {x y z : Rat} {xs ys row : List Rat} {m m' : List (List Rat)} {S P P' Q Q' : Nat → Prop} {cs vs : List Value}
theorem IntO.idx {l : List Nat} (h : IntO base w v l) {k : IntKind} {i : Nat} (hi : i < l.length) : ∃ g, v.ownBlock = some g ∧ indexAddrV (.slice 1) v (.int k i) = some (.pointer (some ⟨g, i, none⟩)) := by
  have := Vc_idx h (k := k) hi; simpa using this
theorem BoolO.idx {l : List Bool} (h : BoolO base w v l) {k : IntKind} {i : Nat} (hi : i < l.length) : ∃ g, v.ownBlock = some g ∧ indexAddrV (.slice 1) v (.int k i) = some (.pointer (some ⟨g, i, none⟩)) := by
  have := Vc_idx h (k := k) hi; simpa using this
theorem IntO.load {C : Ctx} (hC : C.P = CC.P) {l : List Nat} (h : IntO base w v l) {i g : Nat} (hg : v.ownBlock = some g) (hi : i < l.length) {k : Value → World → Prop} (hk : k (.int .i64 (l.getD i 0 : Nat)) w) : LoadP C 3 (.pointer (some ⟨g, i, none⟩)) w k := by
  obtain ⟨hlen, h1⟩ := h
  rcases h1 with ⟨rfl, h0⟩ | ⟨g', cap, cur, rfl, hb, hgg, hn, hm, hs, ht⟩
  · omega
  · simp [Value.ownBlock] at hg
    subst hg
    refine LoadP.one (C := C) (by rw [hC]; exact ti3) hgg ?_ hk
    have : (l.map fun (k : Nat) => Value.int .i64 (k : Nat))[i]? = some (.int .i64 (l.getD i 0 : Nat)) := by
      rw [List.getElem?_map, List.getElem?_eq_getElem hi, List.getD_eq_getElem?_getD, List.getElem?_eq_getElem hi]; rfl
    rw [← ht, List.getElem?_take] at this
    split at this
    · simpa using this
    · cases this
theorem BoolO.load {C : Ctx} (hC : C.P = CC.P) {l : List Bool} (h : BoolO base w v l) {i g : Nat} (hg : v.ownBlock = some g) (hi : i < l.length) {k : Value → World → Prop} (hk : k (.bool (l.getD i true)) w) : LoadP C 4 (.pointer (some ⟨g, i, none⟩)) w k := by
  obtain ⟨hlen, h1⟩ := h
  rcases h1 with ⟨rfl, h0⟩ | ⟨g', cap, cur, rfl, hb, hgg, hn, hm, hs, ht⟩
  · omega
  · simp [Value.ownBlock] at hg
    subst hg
    refine LoadP.one (C := C) (by rw [hC]; exact ti4) hgg ?_ hk
    have : (l.map fun b => Value.bool b)[i]? = some (.bool (l.getD i true)) := by
      rw [List.getElem?_map, List.getElem?_eq_getElem hi, List.getD_eq_getElem?_getD, List.getElem?_eq_getElem hi]; rfl
    rw [← ht, List.getElem?_take] at this
    split at this
    · simpa using this
    · cases this
theorem IntO.len {l : List Nat} (h : IntO base w v l) : lenV (.slice 1) v = some (.int .i64 l.length) := by obtain ⟨a, cap, rfl⟩ := Vc.Own.len h; rfl
theorem BoolO.len {l : List Bool} (h : BoolO base w v l) : lenV (.slice 1) v = some (.int .i64 l.length) := by obtain ⟨a, cap, rfl⟩ := Vc.Own.len h; rfl
theorem MatO.lenV' {P : Nat → Prop} (h : MatO c L P base w v m) : lenV (.slice 1) v = some (.int .i64 m.length) := by obtain ⟨a, cap, rfl⟩ := h.len; rfl
theorem MatO.load {C : Ctx} (hC : C.P = CC.P) {P : Nat → Prop} (h : MatO c L P base w v m) {i g : Nat} (hg : v.ownBlock = some g) (hi : i < m.length) {k : Value → World → Prop} (hk : ∀ u, Vec c L P w u (Spx.rowAt m i) → k u w) : LoadP C 23 (.pointer (some ⟨g, i, none⟩)) w k := by
  obtain ⟨vs, h1, h2⟩ := h
  obtain ⟨u, hu, hv⟩ := h2.2 i _ (rowAt_get hi)
  obtain ⟨hlen, h1⟩ := h1
  rcases h1 with ⟨rfl, h0⟩ | ⟨g', cap, cur, rfl, hb, hgg, hn, hm, hs, ht⟩
  · omega
  · simp [Value.ownBlock] at hg
    subst hg
    refine LoadP.one (C := C) (by rw [hC]; exact ti23) hgg ?_ (hk u hv)
    rw [← ht, List.getElem?_take] at hu
    split at hu
    · simpa using hu
    · cases hu
theorem VecO.load {C : Ctx} (hC : C.P = CC.P) (h : VecO c L base w v xs) {i g : Nat} (hg : v.ownBlock = some g) (hi : i < xs.length) {k : Value → World → Prop} (hk : ∀ r, QR c L w r (qat xs i) → k r w) : LoadP C 30 (.pointer (some ⟨g, i * 4, none⟩)) w k := by
  obtain ⟨cs, h1, h2⟩ := h
  obtain ⟨hlen, h1⟩ := h1
  rcases h1 with ⟨rfl, h0⟩ | ⟨g', cap, cur, rfl, hb, hgg, hn, hm, hs, ht⟩
  · omega
  · simp [Value.ownBlock] at hg
    subst hg
    refine LoadP.many (C := C) (by rw [hC]; exact ti30) hgg (cs := Vc.cut cs (i * 4) 4) (by unfold Vc.cut; simp; omega) (fun j u hu => ?_) (hk _ (h2.2 i _ (qat_get hi)))
    unfold Vc.cut at hu
    rw [List.getElem?_take] at hu
    split at hu
    · rw [List.getElem?_drop, ← ht, List.getElem?_take] at hu
      split at hu
      · simpa using hu
      · cases hu
    · cases hu
theorem nz {x : Rat} : (x.num.sign ≠ 0) ↔ x ≠ 0 := by
  rw [ne_eq, Int.sign_eq_zero_iff_zero, Rat.num_eq_zero]
theorem sgnT {x : Rat} (h : (x.num.sign != 0) = true) : x ≠ 0 := nz.1 (by simpa using h)
theorem sgnF {x : Rat} (h : (x.num.sign != 0) = false) : ¬ x ≠ 0 := fun hx => by
  have h1 := nz.2 hx
  have h2 : x.num.sign = 0 := by
    rw [bne_eq_false_iff_eq] at h; exact h
  exact h1 h2
theorem take_snoc {α : Type} {l : List α} {i : Nat} {x : α} (h : l[i]? = some x) : l.take (i + 1) = l.take i ++ [x] := by
  rw [List.take_add_one, h]; rfl
theorem b_get {l : List Nat} {i : Nat} (h : i < l.length) : l[i]? = some (l.getD i 0) := by
  rw [List.getD_eq_getElem?_getD, List.getElem?_eq_getElem h]; rfl
end
end Go.Proofs.YtaajkcngcalgoaaGreat
