/- The law BinaryExamples: for every input the call returns true and leaves its arguments as they were. No condition. -/
import Derived.Test.YtaajkcngcalgoaaGreatBeQ5
import Derived.Test.YtaajkcngcalgoaaGreatRows
import Derived.JoinedOf
import Derived.KernelRfl
namespace Go.Proofs.YtaajkcngcalgoaaGreat
open Go Go.Vc Go.Spx
attribute [local irreducible] Tryz.prog
section
variable {c c' d : Bool} {L M K base W : Nat} {w w' w'' : World} {v o u a q y10 bv fnv : Value} {x y z : Rat} {xs ys row : List Rat} {m m' : List (List Rat)} {S P P' Q Q' : Nat → Prop} {cs vs : List Value} {b : Bin} {e : TypeId} {l : List Int} {n : BNode} {nodes : List BNode} {best : Option (List Rat)} {st gs g1 g5 g6 : Nat}
def wordsB (L : Nat) : Nat := L + 152 * (2 * L + 1)
theorem c51 {fuel sf err st0 : Nat} {x0 : List Rat} (h : BinR true L P w v b) (hs : solveB L fuel sf b = some (err, x0, st0)) (h7 : 7 ≤ L) (hL : L ≤ 5000) (hf : fuel ≤ 4294967296) (hsf : sf ≤ 1000000)
    (hrg : validP b.lp = true → b.bin.length ≤ 12 → ∀ i, i < b.bin.length → 0 ≤ iat b.bin i ∧ iat b.bin i < b.lp.vars) :
    CallP CC 51 [v] w fun r w' => Grow w w' ∧ ∃ xv, r = .tuple #[xv, .int .i64 (st0 : Nat), .int .i64 (err : Nat)] ∧ Vec true (wordsB L) (fun k => w.heap.size ≤ k) w' xv x0 := by
  obtain ⟨W, hW⟩ : ∃ W, W = wordsB L := ⟨_, rfl⟩
  rw [← hW]
  have hWle : W ≤ 1530152 := by rw [hW]; unfold wordsB; omega
  apply call51
  refine BinAt.box h.old fun g1 w1 hg1 hl1 hl1' hat1 => hat1.load ?_
  have z1 := hg1.size
  refine (c54 hat1.1 hrg).mono ?_
  rintro _ w3 ⟨hg3, rfl⟩
  have z3 := hg3.size
  have hat3 := hat1.grow hg3
  refine px rfl ?_
  unfold solveB at hs
  cases hval : validB b with
  | false =>
    rw [hval] at hs
    simp only [Bool.false_eq_true, if_false, Option.some.injEq, Prod.mk.injEq] at hs
    obtain ⟨rfl, rfl, rfl⟩ := hs
    exact cT rfl ⟨hg1.trans hg3, _, rfl, Vec.nil⟩
  | true =>
  rw [hval] at hs
  simp only [if_true] at hs
  -- what is valid
  have hv := hval
  unfold validB validP validSz at hv
  simp only [Bool.and_eq_true, decide_eq_true_eq] at hv
  obtain ⟨⟨⟨⟨⟨hv1, hv2, hv3, hv4⟩, hv5⟩, hv6⟩, hv7⟩, hv8⟩ := hv
  have hvn : b.lp.vars = (b.lp.n : Int) := by unfold Lp.n; omega
  have hn64 : b.lp.n ≤ 64 := by omega
  have hrows : b.lp.rows.length ≤ 128 := by omega
  have hbnds : b.lp.bounds.length = b.lp.rows.length := by omega
  have hobj : b.lp.objs.length ≤ 4 := by omega
  have hco : colsOf b.lp.objs ≤ 64 := by omega
  have hvp : validP b.lp = true := by
    have := hval; unfold validB at this; simp only [Bool.and_eq_true] at this; exact this.1.1
  have hrg' := hrg hvp hv7
  refine cF rfl (px rfl (BoxP.mk fun gs w4 hg4 hls hls' hbs => ?_))
  have z4 := hg4.size
  have hbs : Blk w4 gs 150 [.slice none 0 0, .nilFunc, .int .i64 0] := hbs
  refine AllocP.mk (C := CC) ti147 fun g5 w5 hg5 hl5 hl5' hb5 => ?_
  have z5 := hg5.size
  refine StoreP.var ti147 hb5 rfl fun w6 hu6 hb56 => ?_
  have hm6 : Md (fun k => k = g5) w5 w6 := Md.of hu6 hb5 (by decide)
  have z6 := hm6.size
  refine AllocP.mk (C := CC) ti4 fun g6 w7 hg7 hl6 hl6' hb6 => ?_
  have z7 := hg7.size
  refine StoreP.var ti4 hb6 rfl fun w8 hu8 hb68 => ?_
  have hm8 : Md (fun k => k = g6) w7 w8 := Md.of hu8 hb6 (by decide)
  have z8 := hm8.size
  have hg48 : Grow w4 w8 := Md.new hg5 ((hm6.mono (S' := fun k => w4.heap.size ≤ k) fun k hk => by omega).trans ((Md.grow hg7).trans (hm8.mono fun k hk => by omega))) fun k hk => hk
  have hb58 : Blk w8 g5 147 [.pointer (some ⟨gs, 0, none⟩)] := (hb56.grow hg7).md hm8 (by omega)
  have hbs8 := hbs.grow hg48
  refine LoadP.var ti147 hb58 (px rfl (px rfl (px rfl ?_)))
  refine StoreP.one (C := CC) (o := 1) ti148 hbs8 rfl (by simp) fun w10 hu10 hbs10 => ?_
  have hm10 : Md (fun k => k = gs) w8 w10 := Md.of hu10 hbs8 (by decide)
  have z10 := hm10.size
  obtain ⟨fnv, hfnv⟩ : ∃ fnv : Value, fnv = .func (.func 109) #[] #[.pointer (some ⟨g6, 0, none⟩), .pointer (some ⟨g1, 0, none⟩), .pointer (some ⟨g5, 0, none⟩)] := ⟨_, rfl⟩
  have hbs10 : Blk w10 gs 150 [.slice none 0 0, fnv, .int .i64 0] := by rw [hfnv]; exact hbs10
  have hb510 : Blk w10 g5 147 [.pointer (some ⟨gs, 0, none⟩)] := hb58.md hm10 (by omega)
  have hb610 : Blk w10 g6 4 [.bool false] := hb68.md hm10 (by omega)
  have hg310 : Grow w3 w10 := Md.new hg4 ((Md.grow hg48).trans hm10) fun k hk => by omega
  have hg110 := hg3.trans hg310
  have hat10 := hat3.grow hg310
  have zw10 := hg110.size
  -- the root
  refine ⟨PhS (fun k => w10.heap.size ≤ k), fun l w' => match l with
      | [] => True
      | [v7] => Md (fun k => w10.heap.size ≤ k) w10 w' ∧ ∃ g7 ga gb, v7 = .pointer (some ⟨g7, 0, none⟩) ∧ w10.heap.size ≤ g7 ∧ w10.heap.size ≤ ga ∧ w10.heap.size ≤ gb ∧ ga ≠ gb ∧ Blk w' ga 2 (List.replicate b.bin.length (.int .i64 0)) ∧ Blk w' gb 2 (List.replicate b.bin.length (.int .i64 0)) ∧ Blk w' g7 154 [.slice (some ⟨ga, 0, none⟩) b.bin.length b.bin.length, .slice (some ⟨gb, 0, none⟩) b.bin.length b.bin.length, .int .i64 0]
      | _ => True, PhS.grow _, PhS.trans _, fun _ _ => trivial,
    fun z _ => z = biV v, fun z s' => s'.1 = 0 → ∃ g, z = .slice (some ⟨g, 0, none⟩) b.bin.length b.bin.length ∧ w10.heap.size ≤ g ∧ Blk s'.2 g 2 (List.replicate b.bin.length (.int .i64 0)), fun z _ => z = biV v, fun z s' => s'.1 = 0 → ∃ g, z = .slice (some ⟨g, 0, none⟩) b.bin.length b.bin.length ∧ w10.heap.size ≤ g ∧ Blk s'.2 g 2 (List.replicate b.bin.length (.int .i64 0)),
    fun z s' => s'.1 = 0 → ∃ g, z = .pointer (some ⟨g, 0, none⟩) ∧ w10.heap.size ≤ g ∧ Blk s'.2 g 154 [.slice none 0 0, .slice none 0 0, .int .i64 0], fun _ _ => True, ?_, ?_, ?_, ?_, ?_, ?_, ?_, ?_, ?_, ?_, ?_, ?_, ?_⟩
  any_goals ((try dsimp only [Fw, Fl]); intros; first | exact ⟨_, rfl⟩ | fail)
  · intro j w' hn ht
    obtain ⟨rfl, hg⟩ := ht.z hn
    exact (hat10.grow hg).bin ⟨Grow.refl _, fun _ _ _ => rfl⟩
  · intro v30 j w' hn ht e; rw [e]; exact ⟨_, hat10.1.bi.len⟩
  · intro v30 j w' hn ht e
    obtain ⟨rfl, hg⟩ := ht.z hn
    have el : lenV (tyOf tyTab 67) v30 = some (.int .i64 (b.bin.length : Nat)) := by rw [e]; exact hat10.1.bi.len
    rw [el]
    refine MakeP.mk (C := CC) sl102 ti2 rfl (by decide) (by omega) (by simp only [maxLen]; omega) fun g w5 hg5 hl _ hb => ?_
    rw [rep_one] at hb
    exact ⟨hg5, fun m w6 ht hm => ⟨g, rfl, by have := hg.size; omega, hb.grow (ht.z (Nat.le_of_eq hm)).2⟩⟩
  · intro _ _ j w' hn ht
    obtain ⟨rfl, hg⟩ := ht.z hn
    exact (hat10.grow hg).bin ⟨Grow.refl _, fun _ _ _ => rfl⟩
  · intro _ _ v30 j w' hn ht e; rw [e]; exact ⟨_, hat10.1.bi.len⟩
  · intro _ _ v30 j w' hn ht e
    obtain ⟨rfl, hg⟩ := ht.z hn
    have el : lenV (tyOf tyTab 67) v30 = some (.int .i64 (b.bin.length : Nat)) := by rw [e]; exact hat10.1.bi.len
    rw [el]
    refine MakeP.mk (C := CC) sl102 ti2 rfl (by decide) (by omega) (by simp only [maxLen]; omega) fun g w5 hg5 hl _ hb => ?_
    rw [rep_one] at hb
    exact ⟨hg5, fun m w6 ht hm => ⟨g, rfl, by have := hg.size; omega, hb.grow (ht.z (Nat.le_of_eq hm)).2⟩⟩
  · intro _ v32 _ v36 j w' hn ht _ _ h32 _ h36
    obtain ⟨rfl, hg⟩ := ht.z hn
    obtain ⟨ga, rfl, _⟩ := h32 rfl
    obtain ⟨gb, rfl, _⟩ := h36 rfl
    exact ⟨_, rfl⟩
  · intro _ v32 _ v36 j w' hn ht _ _ h32 _ h36
    obtain ⟨rfl, hg⟩ := ht.z hn
    obtain ⟨ga, rfl, _⟩ := h32 rfl
    obtain ⟨gb, rfl, _⟩ := h36 rfl
    exact ⟨_, rfl⟩
  · intro _ _ _ _ j w' hn ht
    obtain ⟨rfl, hg⟩ := ht.z hn
    exact AllocP.mk (C := CC) ti154 fun g w9 hg9 hl9 _ hb9 => ⟨hg9, fun m w10 ht hm => ⟨g, rfl, by have := hg.size; omega, hb9.grow (ht.z (Nat.le_of_eq hm)).2⟩⟩
  · intro _ v32 _ v36 v7 j w' hn ht e _ hd1 hd2 hd3 _ h32 _ h36 h7'
    subst e
    have hg := ht.z0
    obtain ⟨ga, rfl, hla, hba⟩ := h32 rfl
    obtain ⟨gb, rfl, hlb, hbb⟩ := h36 rfl
    obtain ⟨g7, rfl, hl7, hb7⟩ := h7' rfl
    have hne : ga ≠ gb := fun e => hd1 (by rw [e])
    have hne1 : ga ≠ g7 := Blk.ne hba hb7 (by decide)
    have hne2 : gb ≠ g7 := Blk.ne hbb hb7 (by decide)
    refine StoreP.row (C := CC) (cs := [.slice (some ⟨ga, 0, none⟩) b.bin.length b.bin.length, .slice (some ⟨gb, 0, none⟩) b.bin.length b.bin.length, .int .i64 0]) hb7 ti154 rfl rfl (fun t ht => ?_) fun w9 hu9 hb9 => ?_
    · simp only [List.mem_cons, List.not_mem_nil, or_false] at ht
      rcases ht with rfl | rfl | rfl <;> rfl
    have hm9 : Md (fun k => k = g7) w' w9 := Md.of hu9 hb7 (by decide)
    have hmS := hm9.mono (S' := fun k => w10.heap.size ≤ k) fun k hk => by omega
    exact ⟨PhS.next hmS, fun _ _ _ => trivial, fun w'' hg' => ⟨((Md.grow hg).trans hmS).trans (Md.grow hg'), g7, ga, gb, rfl, hl7, hla, hlb, hne, (hba.md hm9 (by omega)).grow hg', (hbb.md hm9 (by omega)).grow hg', hb9.grow hg'⟩⟩
  intro _ _ _ _ _ _ _ w29 ht
  intros
  rename_i hL
  obtain ⟨hm29, g7, ga, gb, rfl, hl7, hla, hlb, hne, hba, hbb, hb7⟩ := hL
  have z29 := hm29.size
  have hne1 : ga ≠ g7 := Blk.ne hba hb7 (by decide)
  have hne2 : gb ≠ g7 := Blk.ne hbb hb7 (by decide)
  refine px rfl (px rfl (LoadP.fld (o := 1) hb7 ti102 rfl (px (v := .int .i64 (b.bin.length : Nat)) rfl ?_)))
  refine ⟨fun y w' => ∃ i : Nat, y = .int .i64 (i : Nat) ∧ i ≤ b.bin.length ∧ Md (fun k => k = gb) w29 w' ∧ Blk w' gb 2 ((List.replicate i (.int .i64 1)) ++ List.replicate (b.bin.length - i) (.int .i64 0)), fun y _ => b.bin.length - (vint y).toNat, ⟨0, rfl, by omega, Md.refl _, by simpa using hbb⟩, ?_⟩
  rintro _ - w31 ⟨i, rfl, hi, hm31, hbb31⟩
  have z31 := hm31.size
  have hb731 := hb7.md hm31 (by omega)
  refine px rfl (cD (fun hlt => ?_) (fun hge => ?_))
  · have hil : i < b.bin.length := by omega
    refine px rfl (px rfl (LoadP.fld (o := 1) hb731 ti102 rfl (px (idx1 hil) (StoreP.one (C := CC) (o := i) ti2 hbb31 rfl (by simp; omega) fun w33 hu33 hb33 => ?_))))
    have hm33 : Md (fun k => k = gb) w31 w33 := Md.of hu33 hbb31 (by decide)
    refine pi rfl (by omega) ⟨⟨i + 1, by simp, by omega, hm31.trans hm33, ?_⟩, by simp only [vint_int]; omega⟩
    have e : (List.replicate i (Value.int .i64 1) ++ List.replicate (b.bin.length - i) (Value.int .i64 0)).set i (Value.int .i64 1) = List.replicate (i + 1) (Value.int .i64 1) ++ List.replicate (b.bin.length - (i + 1)) (Value.int .i64 0) := by
      apply List.ext_getElem?
      intro j
      rw [List.getElem?_set]
      simp only [List.getElem?_append, List.length_replicate, List.getElem?_replicate, List.length_append]
      by_cases e : i = j
      · subst e; rw [if_pos rfl, if_pos (by omega), if_pos (by omega), if_pos (by omega)]
      · rw [if_neg e]
        by_cases h2 : j < i
        · rw [if_pos h2, if_pos h2, if_pos (by omega), if_pos (by omega)]
        · rw [if_neg h2, if_neg (show ¬ j < i + 1 by omega)]
          by_cases h3 : j < b.bin.length
          · rw [if_pos (by omega), if_pos (by omega)]
          · rw [if_neg (by omega), if_neg (by omega)]
    rw [e] at hb33; exact hb33
  have : i = b.bin.length := by omega
  subst this
  rw [Nat.sub_self, List.replicate_zero, List.append_nil] at hbb31
  have hba31 := hba.md hm31 (fun e => hne e)
  refine LoadP.row (C := CC) ti154 hb731 rfl (LitP.one (C := CC) (sz := 3) sl155 ti154 rfl (by decide) (by decide) rfl fun s0 w35 hg35 hone => ?_)
  have z35 := hg35.size
  have hm1035 : Md (fun k => w10.heap.size ≤ k) w10 w35 := (hm29.trans (hm31.mono fun k hk => by omega)).trans (Md.grow hg35)
  have hm335 : Md (fun k => w3.heap.size ≤ k) w3 w35 := (Md.grow hg310).trans (hm1035.mono fun k hk => by have := hg310.size; omega)
  have hg310s := hg310.size
  have hroot : NodeT (fun _ => True) w35 (.slice (some ⟨ga, 0, none⟩) b.bin.length b.bin.length, .slice (some ⟨gb, 0, none⟩) b.bin.length b.bin.length, 0) (rootN b) := by
    refine ⟨⟨?_, ?_⟩, ⟨?_, ?_⟩, rfl⟩
    · have := sli_blk (P := fun _ => True) (n := b.bin.length) (hba31.grow hg35) (by simp) (by omega) trivial
      simpa [rootN] using this
    · intro k hk; have := List.eq_of_mem_replicate hk; omega
    · have := sli_blk (P := fun _ => True) (n := b.bin.length) (hbb31.grow hg35) (by simp) (by omega) trivial
      simpa [rootN] using this
    · intro k hk; have := List.eq_of_mem_replicate hk; omega
  have hstk : StackO w3.heap.size (fun _ => True) w35 s0 [rootN b] := ⟨[_], Vc.Own.base (hone.own rfl) (by omega), hroot, trivial⟩
  have hN : ∀ k, k < w.heap.size → k < w3.heap.size := fun k hk => by omega
  have hg1b : g1 < w3.heap.size := by omega
  have hBS0 : BS b L W w3.heap.size (fun k => k < w.heap.size) gs g1 g5 g6 v fnv w35 s0 (.slice none 0 0) [rootN b] none 0 :=
    ⟨hstk, hbs10.md hm1035 (by omega), hb610.md hm1035 (by omega), hb510.md hm1035 (by omega), hat10.md hm1035 (fun k hk => by omega) (by omega), fun x hx => by (cases hx), rfl⟩
  refine ⟨fun y9 y10 w' => ∃ (f : Nat) (nodes : List BNode) (best : Option (List Rat)) (unb : Bool) (st : Nat) (bv : Value), y9 = .bool unb ∧ search L fuel b f nodes best unb st = some (err, x0, st0) ∧ st + f = sf ∧ nodes.length ≤ st + 1 ∧ (∀ n ∈ nodes, n.lo.length = b.bin.length ∧ n.hi.length = b.bin.length ∧ n.depth ≤ st) ∧ BS b L W w3.heap.size (fun k => k < w.heap.size) gs g1 g5 g6 v fnv w' y10 bv nodes best st ∧ Md (fun k => w3.heap.size ≤ k) w3 w',
    fun _ _ w' => sf - stepsOf gs w', ⟨sf, [rootN b], none, false, 0, .slice none 0 0, rfl, hs, by omega, by simp, by simp [rootN], hBS0, hm335⟩, ?_⟩
  rintro _ y10 - w36 ⟨f, nodes, best, unb, st, bv, rfl, hse, hstf, hnl, hnodes, hBS, hm36⟩
  have z36 := hm36.size
  have hst36 := stepsOf_eq hBS.2.1
  obtain ⟨sa, sc, rfl⟩ := hBS.1.len
  have fpos : ∃ f', f = f' + 1 := by
    cases f with
    | zero => simp [search] at hse
    | succ f' => exact ⟨f', rfl⟩
  obtain ⟨f', rfl⟩ := fpos
  refine px rfl ?_
  have hgrw : ∀ {w' : World}, Md (fun k => w3.heap.size ≤ k) w3 w' → Grow w w' := fun hm => Md.new (hg1.trans hg3) hm fun k hk => by omega
  have hst62 : st < 1000000 := by omega
  cases nodes with
  | nil =>
    refine px rfl (cF rfl (LoadP.var ti4 hBS.2.2.1 (px rfl ?_)))
    simp only [search] at hse
    cases best with
    | none =>
      simp only [Option.some.injEq, Prod.mk.injEq] at hse
      obtain ⟨rfl, rfl, rfl⟩ := hse
      exact cT rfl ⟨hgrw hm36, _, rfl, Vec.nil⟩
    | some x =>
      simp only at hse
      refine cF rfl ?_
      cases unb with
      | true =>
        simp only [if_true, Option.some.injEq, Prod.mk.injEq] at hse
        obtain ⟨rfl, rfl, rfl⟩ := hse
        exact cT rfl ⟨hgrw hm36, _, rfl, Vec.nil⟩
      | false =>
        simp only [Bool.false_eq_true, if_false, Option.some.injEq, Prod.mk.injEq] at hse
        obtain ⟨rfl, rfl, rfl⟩ := hse
        refine cF rfl ?_
        obtain ⟨-, hS, -, h5, -, hbst, -⟩ := hBS
        refine ⟨fun z _ => z = .pointer (some ⟨gs, 0, none⟩), fun z _ => z = bv, fun z _ => z = .pointer (some ⟨gs, 0, none⟩), fun z _ => z = .int .i64 (st : Nat), ?_, ?_, ?_, ?_, ?_, ?_, ?_, ?_, ?_⟩
        · intro w1 hg; exact LoadP.fld (C := CC) (o := 0) (h5.grow hg) ti147 rfl ⟨Grow.refl _, fun _ _ => rfl⟩
        · rintro _ w1 hg rfl; exact ⟨_, rfl⟩
        · rintro _ w1 hg rfl; exact ⟨_, rfl⟩
        · rintro _ w1 hg rfl; exact LoadP.fld (C := CC) (o := 0) (hS.grow hg) ti23 rfl ⟨Grow.refl _, fun _ _ => rfl⟩
        · intro _ _ w1 hg; exact LoadP.fld (C := CC) (o := 0) (h5.grow hg) ti147 rfl ⟨Grow.refl _, fun _ _ => rfl⟩
        · rintro _ _ _ w1 hg rfl; exact ⟨_, rfl⟩
        · rintro _ _ _ w1 hg rfl; exact ⟨_, rfl⟩
        · rintro _ _ _ w1 hg rfl; exact LoadP.fld (C := CC) (o := 2) (hS.grow hg) ti3 rfl ⟨Grow.refl _, fun _ _ => rfl⟩
        rintro _ _ _ _ _ w127 hg _ rfl _ rfl
        exact ⟨(hgrw hm36).trans hg, _, rfl, ((hbst _ rfl).1.grow hg).mono fun k _ hk => by omega⟩
  | cons n rest =>
    have hrl : rest.length < 1000001 := by simp at hnl; omega
    obtain ⟨hnlo, hnhi, hnd⟩ := hnodes n (by simp)
    have hnodes' : ∀ m ∈ rest, m.lo.length = b.bin.length ∧ m.hi.length = b.bin.length ∧ m.depth ≤ st := fun m hm => hnodes m (by simp [hm])
    have egt : binV (.int .i64) .gtr (.int .i64 ((n :: rest).length : Nat)) (.int .i64 0) = some (.bool true) := by
      show some (Value.bool (decide ((((n :: rest).length : Nat) : Int) > 0))) = _
      have hlc : (n :: rest).length = rest.length + 1 := rfl
      rw [decide_eq_true (by omega)]
    have esub : binV (.int .i64) .sub (.int .i64 ((n :: rest).length : Nat)) (.int .i64 1) = some (.int .i64 (rest.length : Nat)) := by
      show some (Value.int .i64 (IntKind.i64.wrap ((((n :: rest).length : Nat) : Int) - 1))) = _
      have hlc : (n :: rest).length = rest.length + 1 := rfl
      rw [wrap_i64 (by omega)]; congr 2; omega
    obtain ⟨ad61, had61⟩ := hBS.1.idx
    refine px egt (cT rfl (px rfl (px esub (px had61 (hBS.1.top (by omega) had61 fun t ht => ?_)))))
    refine AllocP.mk (C := CC) ti154 fun g11 w38 hg38 hl11 hl11' hb11 => ?_
    have z38 := hg38.size
    refine StoreP.row (C := CC) (cs := tcell t) hb11 ti154 rfl rfl ht.one fun w39 hu39 hb39 => ?_
    have hm39 : Md (fun k => k = g11) w38 w39 := Md.of hu39 hb11 (by decide)
    have hg3639 : Grow w36 w39 := Md.new hg38 hm39 fun k hk => by omega
    obtain ⟨v67, hsl, hpop, hown⟩ := hBS.1.pop
    refine px rfl (px esub (px hsl (LoadP.row (C := CC) ti154 hb39 rfl ?_)))
    have hBS39 := hBS.grow hg3639
    have ht39 := ht.grow hg3639
    refine hBS39.2.2.2.2.1.load ((c110 ht39.node hBS39.2.2.2.2.1.1 h7 (by omega) hnlo hnhi hrows (by omega) hv7 (by omega)).mono ?_)
    rintro pv w42 ⟨hg42, hpv⟩
    -- the relaxation is solved
    cases hrun : run L fuel (nodeP b n) with
    | none => simp [search, hrun] at hse
    | some rr =>
    have hnall := nodeAll_len (b := b) (n := n) (k := b.bin.length)
    have hprows : (nodeP b n).rows.length = b.lp.rows.length + (nodeAll b n b.bin.length).length := by simp [nodeP]
    have hpbnds : (nodeP b n).bounds.length = b.lp.bounds.length + (nodeAll b n b.bin.length).length := by simp [nodeP]
    have hpn : (nodeP b n).n = b.lp.n := rfl
    have hmulr : (nodeP b n).rows.length * (2 * L + 1) ≤ 152 * (2 * L + 1) := Nat.mul_le_mul_right _ (by omega)
    have hmulr1 : ((nodeP b n).rows.length + 1) * (2 * L + 1) ≤ 153 * (2 * L + 1) := Nat.mul_le_mul_right _ (by omega)
    have hWW : L + (nodeP b n).rows.length * (2 * L + 1) ≤ W := by rw [hW]; unfold wordsB; omega
    refine (Lx.c100 hpv (by show 0 ≤ b.lp.vars; omega) (by omega) (by omega) hrun (by omega) (by omega) (by omega) hf (by show b.lp.objs.length ≤ _; omega)).mono ?_
    rintro rv w43 ⟨hg43, hr⟩
    have hr := hr.le hWW
    have hxl : rr.x.length ≤ 64 := by have := run_x hrun; omega
    have z39 := hg3639.size
    have z42 := hg42.size
    have z43 := hg43.size
    have hBS43 := (hBS39.grow hg42).grow hg43
    refine AllocP.mk (C := CC) ti37 fun g12 w44 hg44 hl12 hl12' hb12 => ?_
    have z44 := hg44.size
    obtain ⟨rcl, rc1, rce⟩ := (hr.grow hg44).cells
    obtain ⟨vx, vy, vray, vfar, rfl, hvx, hvy, hvray, hvfar, hpiv⟩ := hr
    refine StoreP.row (C := CC) (cs := [.int .u8 (rr.kind : Nat), vx, vy, vray, vfar, .int .i64 (rr.pivots : Nat)]) hb12 ti37 rfl rfl rc1 fun w45 hu45 hb45 => ?_
    have hm45 : Md (fun k => k = g12) w44 w45 := Md.of hu45 hb12 (by decide)
    have hg4345 : Grow w43 w45 := Md.new hg44 hm45 fun k hk => by omega
    have hg3645 := ((hg3639.trans hg42).trans hg43).trans hg4345
    have hBS45 := hBS43.grow hg4345
    have z45 := hg4345.size
    have hS45 := hBS45.2.1
    refine LoadP.var ti147 hBS45.2.2.2.1 (px rfl (px rfl (LoadP.fld (o := 2) hS45 ti3 rfl ?_)))
    refine pi rfl (by omega) (px rfl (px rfl (StoreP.one (C := CC) (o := 2) ti3 hS45 rfl (by simp) fun w48 hu48 hb48 => ?_)))
    have hm48 : Md (fun k => k = gs) w45 w48 := Md.of hu48 hS45 (by decide)
    have z48 := hm48.size
    have hb48 : Blk w48 gs 150 [bv, fnv, .int .i64 ((st + 1 : Nat) : Int)] := by simpa using hb48
    have hBS48 := hBS45.rec_ hm48 hb48 hN (by omega) hg1b hBS45.2.2.2.2.2.2 hBS45.2.2.2.2.2.1
    have hpop48 : StackO w3.heap.size (fun _ => True) w48 v67 rest := by
      refine ((hpop.grow hg3645).md2 hm48 (fun k hk e => ?_) (NoB.of hS45 (by decide)))
      rw [hown] at hk
      obtain ⟨ts, ho, _⟩ := hBS45.1
      exact Vc.Own.ne ho hS45 (by decide) (by rw [← e]; exact hk)
    have hBSp : BS b L W w3.heap.size (fun k => k < w.heap.size) gs g1 g5 g6 v fnv w48 v67 bv rest best (st + 1) := ⟨hpop48, hBS48.2⟩
    have hm3648 : Md (fun k => w3.heap.size ≤ k) w3 w48 := (hm36.trans (Md.grow hg3645)).trans (hm48.mono fun k hk => by omega)
    have hb1248 : Blk w48 g12 37 [.int .u8 (rr.kind : Nat), vx, vy, vray, vfar, .int .i64 (rr.pivots : Nat)] := hb45.md hm48 (Blk.ne hb45 hS45 (by decide))
    have hb1148 : Blk w48 g11 154 (tcell t) := (((hb39.grow hg42).grow hg43).grow hg4345).md hm48 (by
      have hx1 := ((hb39.grow hg42).grow hg43).grow hg4345
      exact Blk.ne hx1 hS45 (by decide))
    have ht48 : NodeT (fun _ => True) w48 t n := (((ht39.grow hg42).grow hg43).grow hg4345).md2 hm48 (NoB.of hS45 (by decide))
    have hvx48 : Vec true W (fun k => w3.heap.size ≤ k) w48 vx rr.x := ((hvx.grow hg4345).mono (Q := fun k => w3.heap.size ≤ k) fun k _ hk => by omega).md2 hm48 fun k _ hk c fr he => by
      subst hk; unfold Blk at hS45; rw [hS45] at he; cases he
    have hmu : ∀ {w' : World} {bv' : Value}, Blk w' gs 150 [bv', fnv, .int .i64 ((st + 1 : Nat) : Int)] → sf - stepsOf gs w' < sf - stepsOf gs w36 := fun h => by rw [stepsOf_eq h, hst36]; omega
    refine px rfl (LoadP.fld (o := 0) hb1248 ti5 rfl (px rfl (cB (fun hk2 => ?_) (fun hk2 => ?_))))
    · have e2 : rr.kind = 2 := by have := beq_iff_eq.1 hk2; omega
      simp only [search, hrun, Option.bind_some, e2, if_true] at hse
      exact ⟨⟨f', rest, best, unb, st + 1, bv, rfl, hse, by omega, by simp at hnl; omega, fun m hm => by have := hnodes' m hm; omega, hBSp, hm3648⟩, hmu hb48⟩
    · have e2 : ¬ rr.kind = 2 := fun e => by rw [e] at hk2; simp at hk2
      refine px rfl (cB (fun hk3 => ?_) (fun hk3 => ?_))
      · have e3 : rr.kind = 3 := by have := beq_iff_eq.1 hk3; omega
        simp only [search, hrun, Option.bind_some, if_neg e2, e3, if_true] at hse
        refine ⟨fun y w' => ∃ j : Nat, y = .int .i64 (j : Nat) ∧ j ≤ b.bin.length ∧ Grow w48 w' ∧ ∀ k, k < j → decide (iat n.lo k ≠ iat n.hi k) = false, fun y _ => b.bin.length - (vint y).toNat, ⟨0, rfl, by omega, Grow.refl _, fun k hk => by omega⟩, ?_⟩
        rintro _ - w50 ⟨j, rfl, hj, hg50, heq⟩
        have hb1150 := hb1148.grow hg50
        have ht50 := ht48.grow hg50
        have elen : lenV (tyOf tyTab 102) t.2.1 = some (.int .i64 (b.bin.length : Nat)) := by rw [← hnhi]; exact ht50.2.1.len
        by_cases hjl : j < b.bin.length
        · have hjlo : j < n.lo.length := by omega
          have hjhi : j < n.hi.length := by omega
          obtain ⟨ad1, had1⟩ := ht50.1.idx hjlo
          obtain ⟨ad2, had2⟩ := ht50.2.1.idx hjhi
          have had1' : indexAddrV (tyOf tyTab 102) t.1 (.int .i64 (j : Nat)) = some ad1 := had1
          have had2' : indexAddrV (tyOf tyTab 102) t.2.1 (.int .i64 (j : Nat)) = some ad2 := had2
          have e1 : gd (binV (.int .i64) .lss (.int .i64 (j : Nat)) (gd (lenV (tyOf tyTab 102) t.2.1))) = .bool true := by
            rw [elen]; show Value.bool (decide (((j : Nat) : Int) < ((b.bin.length : Nat) : Int))) = _; rw [decide_eq_true (by omega)]
          refine ⟨fun z _ => z = t.2.1, fun z _ => z = t.1, fun z _ => z = .int .i64 (iat n.lo j), fun z _ => z = t.2.1, fun z _ => z = .int .i64 (iat n.hi j), ?_, ?_, ?_, ?_, ?_, ?_, ?_, ?_, ?_, ?_, ?_, ?_, ?_, ?_, ?_, ?_, ?_, ?_⟩
          any_goals ((try dsimp only [Fw, Fl]); intros; first | exact ⟨_, rfl⟩ | fail)
          · intro w1 hg; exact LoadP.fld (C := CC) (o := 1) (hb1150.grow hg) ti102 rfl ⟨Grow.refl _, fun _ _ => rfl⟩
          · intro _ w1 hg e; rw [e]; exact ⟨_, elen⟩
          · intro _ w1 hg e; rw [e, elen]; exact ⟨_, rfl⟩
          · intro _ w1 hg _ _; exact LoadP.fld (C := CC) (o := 0) (hb1150.grow hg) ti102 rfl ⟨Grow.refl _, fun _ _ => rfl⟩
          · intro _ _ w1 hg _ e hgd; rw [e hgd]; exact ⟨_, had1'⟩
          · intro _ _ w1 hg _ e hgd; rw [e hgd, had1']; exact (ht50.1.grow hg).load ti2 had1 hjlo ⟨Grow.refl _, fun _ _ => rfl⟩
          · intro _ _ _ w1 hg _ _; exact LoadP.fld (C := CC) (o := 1) (hb1150.grow hg) ti102 rfl ⟨Grow.refl _, fun _ _ => rfl⟩
          · intro _ _ _ _ w1 hg _ e hgd; rw [e hgd]; exact ⟨_, had2'⟩
          · intro _ _ _ _ w1 hg _ e hgd; rw [e hgd, had2']; exact (ht50.2.1.grow hg).load ti2 had2 hjhi ⟨Grow.refl _, fun _ _ => rfl⟩
          · intro _ _ _ _ _ w1 hg _ _ h97 _ h103 hgd; rw [h97 hgd, h103 hgd]; exact ⟨_, rfl⟩
          · intro _ _ _ _ _ w1 hg e88 _ h97 _ h103
            rw [e88] at h97 h103 ⊢
            rw [h97 e1, h103 e1, e1]; exact ⟨_, rfl⟩
          intro v88 _ v97 _ v103 _ w73 hg73 e88 _ h97 _ h103
          rw [e88] at h97 h103 ⊢
          rw [h97 e1, h103 e1, e1]
          show CondP (.bool (iat n.lo j == iat n.hi j)) _ _
          refine cB (fun hb => ?_) (fun hb => ?_)
          · have hlh : iat n.lo j = iat n.hi j := beq_iff_eq.1 hb
            refine pi rfl (by omega) ⟨⟨j + 1, by simp, by omega, hg50.trans hg73, fun k hk => ?_⟩, by simp only [vint_int]; omega⟩
            by_cases e : k = j
            · subst e; simp [hlh]
            · exact heq k (by omega)
          · have hlh : iat n.lo j ≠ iat n.hi j := by simpa using hb
            have hun : unfixed n = some j := find_range (by omega) heq (by simpa using hlh)
            rw [hun] at hse
            simp only at hse
            have hb1173 := hb1150.grow hg73
            have ht73 := ht50.grow hg73
            have hg4873 := hg50.trans hg73
            have hBS73 := hBSp.grow hg4873
            refine px rfl (px rfl (LoadP.fld (C := CC) (o := 1) hb1173 ti102 rfl (px elen ?_)))
            refine px rfl (cF (by rw [beq_eq_false_iff_ne]; omega) (LoadP.row (C := CC) ti154 hb1173 rfl ?_))
            refine (c111 ht73.node hjlo hjhi (by omega) (by omega) (by omega)).mono ?_
            rintro _ w76 ⟨hg76, zv, ov, rfl, hz, ho⟩
            have z76 := hg76.size
            have zg73 := hg4873.size
            refine px rfl (px rfl (AllocP.mk (C := CC) ti154 fun g14 w77 hg77 hl14 hl14' hb14 => AllocP.mk (C := CC) ti154 fun g15 w78 hg78 hl15 hl15' hb15 => ?_))
            have z77 := hg77.size
            have z78 := hg78.size
            obtain ⟨tz, rfl, htz⟩ := hz.t
            obtain ⟨to_, rfl, hto⟩ := ho.t
            refine StoreP.row (C := CC) (cs := tcell tz) (hb14.grow hg78) ti154 rfl rfl htz.one fun w79 hu79 hb79 => ?_
            have hm79 : Md (fun k => k = g14) w78 w79 := Md.of hu79 (hb14.grow hg78) (by decide)
            have hb1579 := hb15.md hm79 (by omega)
            have z79 := hm79.size
            refine StoreP.row (C := CC) (cs := tcell to_) hb1579 ti154 rfl rfl hto.one fun w80 hu80 hb80 => ?_
            have hm80 : Md (fun k => k = g15) w79 w80 := Md.of hu80 hb1579 (by decide)
            have z80 := hm80.size
            have hg7680 : Grow w76 w80 := Md.new hg77 ((Md.grow hg78).trans ((hm79.mono (S' := fun k => w76.heap.size ≤ k) fun k hk => by omega).trans (hm80.mono fun k hk => by omega))) fun k hk => hk
            refine LoadP.row (C := CC) ti154 hb80 rfl (LoadP.row (C := CC) ti154 (hb79.md hm80 (by omega)) rfl ?_)
            have hBS80 := (hBS73.grow hg76).grow hg7680
            refine hBS80.1.push2 ((hto.grow hg7680).node.mono fun _ _ _ => trivial) ((htz.grow hg7680).node.mono fun _ _ _ => trivial) (by omega) (by omega) fun v' w84 hst' hm84 hf84 => ?_
            have hBS84 := hBS80.stack hm84 hst' hN hg1b
            refine ⟨⟨f', zeroOf n j :: oneOf n j :: rest, best, true, st + 1, bv, rfl, hse, by omega, by simp at hnl ⊢; omega, ?_, hBS84, ?_⟩, hmu hBS84.2.1⟩
            · intro m hm
              simp only [List.mem_cons] at hm
              rcases hm with rfl | rfl | hm
              · exact ⟨hnlo, by show (n.hi.set j 0).length = _; rw [List.length_set]; exact hnhi, by show n.depth + 1 ≤ _; omega⟩
              · exact ⟨by show (n.lo.set j 1).length = _; rw [List.length_set]; exact hnlo, hnhi, by show n.depth + 1 ≤ _; omega⟩
              · have := hnodes' m hm; omega
            · exact (hm3648.trans (Md.grow (hg4873.trans (hg76.trans hg7680)))).trans (hm84.mono fun k hk => (hBS80.1.block k hk).1)
        · have e1 : gd (binV (.int .i64) .lss (.int .i64 (j : Nat)) (gd (lenV (tyOf tyTab 102) t.2.1))) = .bool false := by
            rw [elen]; show Value.bool (decide (((j : Nat) : Int) < ((b.bin.length : Nat) : Int))) = _; rw [decide_eq_false (by omega)]
          have ejl : j = b.bin.length := by omega
          refine ⟨fun z _ => z = t.2.1, fun _ _ => True, fun _ _ => True, fun _ _ => True, fun _ _ => True, ?_, ?_, ?_, ?_, ?_, ?_, ?_, ?_, ?_, ?_, ?_, ?_, ?_, ?_, ?_, ?_, ?_, ?_⟩
          any_goals ((try dsimp only [Fw, Fl]); intros; first | exact ⟨_, rfl⟩ | fail)
          · intro w1 hg; exact LoadP.fld (C := CC) (o := 1) (hb1150.grow hg) ti102 rfl ⟨Grow.refl _, fun _ _ => rfl⟩
          · intro _ w1 hg e; rw [e]; exact ⟨_, elen⟩
          · intro _ w1 hg e; rw [e, elen]; exact ⟨_, rfl⟩
          · intro _ w1 hg e hgd; rw [e, e1] at hgd; cases hgd
          · intro _ _ w1 hg e _ hgd; rw [e, e1] at hgd; cases hgd
          · intro _ _ w1 hg e _ hgd; rw [e, e1] at hgd; cases hgd
          · intro _ _ _ w1 hg e hgd; rw [e, e1] at hgd; cases hgd
          · intro _ _ _ _ w1 hg e _ hgd; rw [e, e1] at hgd; cases hgd
          · intro _ _ _ _ w1 hg e _ hgd; rw [e, e1] at hgd; cases hgd
          · intro _ _ _ _ _ w1 hg e _ _ _ _ hgd; rw [e, e1] at hgd; cases hgd
          · intro _ _ _ _ _ w1 hg e _ _ _ _; rw [e, e1]; exact ⟨_, rfl⟩
          intro v88 _ v97 _ v103 _ w73 hg73 e88 _ _ _ _
          rw [e88, e1]
          have hun : unfixed n = none := find_none (by rw [hnhi, ← ejl]; exact heq)
          rw [hun] at hse
          simp only [Option.some.injEq, Prod.mk.injEq] at hse
          obtain ⟨rfl, rfl, rfl⟩ := hse
          refine cF rfl (px rfl (px rfl (LoadP.fld (C := CC) (o := 1) (hb1150.grow hg73) ti102 rfl (px elen (px rfl (cT (by rw [beq_iff_eq]; omega) ?_))))))
          exact ⟨(hgrw hm3648).trans (hg50.trans hg73), _, rfl, Vec.nil⟩
      · have e3 : ¬ rr.kind = 3 := fun e => by rw [e] at hk3; simp at hk3
        simp only [search, hrun, Option.bind_some, if_neg e2, if_neg e3] at hse
        obtain ⟨pr, hpr⟩ : ∃ pr : Bool, pr = pruned b best rr.x := ⟨_, rfl⟩
        rw [← hpr] at hse
        obtain ⟨bl0, hbl0⟩ : ∃ bl0, bl0 = best.getD [] := ⟨_, rfl⟩
        have hpr' : (best.isSome && decide (cmpP b.lp rr.x bl0 ≤ 0)) = pr := by rw [hpr, hbl0]; cases best <;> rfl
        have hbl64 : bl0.length ≤ 64 := by
          rw [hbl0]
          cases hbb : best with
          | none => simp
          | some x => exact (hBSp.2.2.2.2.2.1 x hbb).2
        have hbv : best.isSome = true → Vec true W (fun k => w3.heap.size ≤ k) w48 bv bl0 := fun h => by
          cases hbb : best with
          | none => rw [hbb] at h; cases h
          | some x => rw [hbl0, hbb]; exact (hBSp.2.2.2.2.2.1 x hbb).1
        have hx1 : lenV (tyOf tyTab 23) vx = some (.int .i64 (rr.x.length : Nat)) := hvx48.len
        refine ⟨fun z _ => z = .pointer (some ⟨gs, 0, none⟩), fun z _ => z = fnv, fun z _ => z = vx, fun z _ => z = .bool pr, ?_, ?_, ?_, ?_, ?_, ?_, ?_, ?_⟩
        · intro w1 hg; exact LoadP.fld (C := CC) (o := 0) (hBSp.2.2.2.1.grow hg) ti147 rfl ⟨Grow.refl _, fun _ _ => rfl⟩
        · rintro _ w1 hg e; rw [e]; exact ⟨_, rfl⟩
        · rintro _ w1 hg e; rw [e]; exact ⟨_, rfl⟩
        · rintro _ w1 hg e; rw [e]; exact LoadP.fld (C := CC) (o := 1) (hb48.grow hg) ti148 rfl ⟨Grow.refl _, fun _ _ => rfl⟩
        · intro _ _ w1 hg; exact ⟨_, rfl⟩
        · intro _ _ w1 hg; exact LoadP.fld (C := CC) (o := 1) (hb1248.grow hg) ti23 rfl ⟨Grow.refl _, fun _ _ => rfl⟩
        · intro _ _ _ w1 hg _ e128 e130
          rw [e128, e130, hfnv]
          have hBS1 := hBSp.grow hg
          refine callV.func rfl ?_
          refine (c109 (k := 64) (W := W) (hvx48.grow hg) hBS1.2.2.1 hBS1.2.2.2.2.1 hBS1.2.2.2.1 hBS1.2.1 (fun h => (hbv h).grow hg) (by omega) (by omega) (by omega) (by decide) (by omega) (by omega)).mono ?_
          rintro r w5 ⟨hg5, hr⟩
          rw [hpr'] at hr
          exact ⟨hg5, fun _ _ => hr⟩
        rintro _ _ _ _ _ w96 hg96 _ _ _ e131
        rw [e131]
        have hBS96 := hBSp.grow hg96
        have hm96 := hm3648.trans (Md.grow hg96)
        refine cB (fun hp => ?_) (fun hp => ?_)
        · rw [hp] at hse
          simp only [if_true] at hse
          exact ⟨⟨f', rest, best, unb, st + 1, bv, rfl, hse, by omega, by simp at hnl; omega, fun m hm => by have := hnodes' m hm; omega, hBS96, hm96⟩, hmu hBS96.2.1⟩
        · rw [hp] at hse
          simp only [Bool.false_eq_true, if_false] at hse
          have hb1296 := hb1248.grow hg96
          refine hBS96.2.2.2.2.1.load (px rfl (LoadP.fld (C := CC) (o := 1) hb1296 ti23 rfl ((c112 hBS96.2.2.2.2.1.1 (hvx48.grow hg96) (fun i hi => (hrg' i hi).1) (by omega) (by omega)).mono ?_)))
          rintro _ w99 ⟨hg99, rfl⟩
          have hg4899 := hg96.trans hg99
          have hBS99 := hBSp.grow hg4899
          have hb1299 := hb1248.grow hg4899
          have z99 := hg4899.size
          cases hint : integral b.bin rr.x with
          | none =>
            rw [hint] at hse
            simp only at hse
            refine px rfl (px rfl (cT rfl ?_))
            refine LoadP.var ti147 hBS99.2.2.2.1 (px rfl (LoadP.fld (C := CC) (o := 1) hb1299 ti23 rfl (px rfl (px rfl ?_))))
            have hS99 := hBS99.2.1
            refine StoreP.one (C := CC) (o := 0) ti23 hS99 hvx48.one (by simp) fun w102 hu102 hb102 => ?_
            have hm102 : Md (fun k => k = gs) w99 w102 := Md.of hu102 hS99 (by decide)
            have hb102 : Blk w102 gs 150 [vx, fnv, .int .i64 ((st + 1 : Nat) : Int)] := by simpa using hb102
            have hvx99 : Vec true W (fun k => w3.heap.size ≤ k) w99 vx rr.x := hvx48.grow hg4899
            obtain ⟨s1, s2, s3, s4, s5, s6, s7⟩ := hBS99
            have hBSn : BS b L W w3.heap.size (fun k => k < w.heap.size) gs g1 g5 g6 v fnv w99 v67 bv rest none (st + 1) ∨ True := .inr trivial
            have hstk2 : StackO w3.heap.size (fun _ => True) w102 v67 rest := s1.md2 hm102 (fun k hk e => by
              obtain ⟨ts, ho, _⟩ := s1
              exact Vc.Own.ne ho hS99 (by decide) (by rw [← e]; exact hk)) (NoB.of hS99 (by decide))
            have hvx102 : Vec true W (fun k => w3.heap.size ≤ k) w102 vx rr.x := hvx99.md2 hm102 fun k _ hk c fr he => by
              subst hk; unfold Blk at hS99; rw [hS99] at he; cases he
            have h6b : Blk w102 g6 4 [.bool best.isSome] := s3.md hm102 (Blk.ne s3 hS99 (by decide))
            refine StoreP.var ti4 h6b rfl fun w103 hu103 hb103 => ?_
            have hm103 : Md (fun k => k = g6) w102 w103 := Md.of hu103 h6b (by decide)
            have hBS103 : BS b L W w3.heap.size (fun k => k < w.heap.size) gs g1 g5 g6 v fnv w103 v67 vx rest (some rr.x) (st + 1) := by
              refine ⟨hstk2.md2 hm103 (fun k hk e => by
                obtain ⟨ts, ho, _⟩ := hstk2
                exact Vc.Own.ne ho h6b (by decide) (by rw [← e]; exact hk)) (NoB.of h6b (by decide)), hb102.md hm103 (Blk.ne hb102 h6b (by decide)), hb103, (s4.md hm102 (Blk.ne s4 hS99 (by decide))).md hm103 (by
                  have := s4.md hm102 (Blk.ne s4 hS99 (by decide))
                  exact Blk.ne this h6b (by decide)), (s5.md hm102 (fun k hk e => by have := hN k hk; omega) (by omega)).md hm103 (fun k hk e => by have := hN k hk; omega) (by omega), fun y hy => ?_, hvx48.one⟩
              cases hy
              refine ⟨hvx102.md2 hm103 fun k _ hk c fr he => ?_, hxl⟩
              subst hk; unfold Blk at h6b; rw [h6b] at he; cases he
            refine ⟨⟨f', rest, some rr.x, unb, st + 1, vx, rfl, hse, by omega, by simp at hnl; omega, fun m hm => by have := hnodes' m hm; omega, hBS103, ?_⟩, hmu hBS103.2.1⟩
            exact ((hm3648.trans (Md.grow hg4899)).trans (hm102.mono fun k hk => by omega)).trans (hm103.mono fun k hk => by omega)
          | some j =>
            rw [hint] at hse
            simp only at hse
            have hjl : j < b.bin.length := by
              unfold integral at hint
              simpa using List.mem_of_find?_eq_some hint
            have hjlo : j < n.lo.length := by omega
            have hjhi : j < n.hi.length := by omega
            have hb1199 := hb1148.grow hg4899
            have ht99 := ht48.grow hg4899
            refine px rfl (px rfl (cF rfl (LoadP.row (C := CC) ti154 hb1199 rfl ?_)))
            refine (c111 ht99.node hjlo hjhi (by omega) (by omega) (by omega)).mono ?_
            rintro _ w76 ⟨hg76, zv, ov, rfl, hz, ho⟩
            have z76 := hg76.size
            refine px rfl (px rfl (AllocP.mk (C := CC) ti154 fun g14 w77 hg77 hl14 hl14' hb14 => AllocP.mk (C := CC) ti154 fun g15 w78 hg78 hl15 hl15' hb15 => ?_))
            have z77 := hg77.size
            have z78 := hg78.size
            obtain ⟨tz, rfl, htz⟩ := hz.t
            obtain ⟨to_, rfl, hto⟩ := ho.t
            refine StoreP.row (C := CC) (cs := tcell tz) (hb14.grow hg78) ti154 rfl rfl htz.one fun w79 hu79 hb79 => ?_
            have hm79 : Md (fun k => k = g14) w78 w79 := Md.of hu79 (hb14.grow hg78) (by decide)
            have hb1579 := hb15.md hm79 (by omega)
            have z79 := hm79.size
            refine StoreP.row (C := CC) (cs := tcell to_) hb1579 ti154 rfl rfl hto.one fun w80 hu80 hb80 => ?_
            have hm80 : Md (fun k => k = g15) w79 w80 := Md.of hu80 hb1579 (by decide)
            have z80 := hm80.size
            have hg7680 : Grow w76 w80 := Md.new hg77 ((Md.grow hg78).trans ((hm79.mono (S' := fun k => w76.heap.size ≤ k) fun k hk => by omega).trans (hm80.mono fun k hk => by omega))) fun k hk => hk
            refine LoadP.row (C := CC) ti154 (hb79.md hm80 (by omega)) rfl (LoadP.row (C := CC) ti154 hb80 rfl ?_)
            have hBS80 := (hBS99.grow hg76).grow hg7680
            refine hBS80.1.push2 ((htz.grow hg7680).node.mono fun _ _ _ => trivial) ((hto.grow hg7680).node.mono fun _ _ _ => trivial) (by omega) (by omega) fun v' w84 hst' hm84 hf84 => ?_
            have hBS84 := hBS80.stack hm84 hst' hN hg1b
            refine ⟨⟨f', oneOf n j :: zeroOf n j :: rest, best, unb, st + 1, bv, rfl, hse, by omega, by simp at hnl ⊢; omega, ?_, hBS84, ?_⟩, hmu hBS84.2.1⟩
            · intro m hm
              simp only [List.mem_cons] at hm
              rcases hm with rfl | rfl | hm
              · exact ⟨by show (n.lo.set j 1).length = _; rw [List.length_set]; exact hnlo, hnhi, by show n.depth + 1 ≤ _; omega⟩
              · exact ⟨hnlo, by show (n.hi.set j 0).length = _; rw [List.length_set]; exact hnhi, by show n.depth + 1 ≤ _; omega⟩
              · have := hnodes' m hm; omega
            · exact (hm3648.trans (Md.grow (hg4899.trans (hg76.trans hg7680)))).trans (hm84.mono fun k hk => (hBS80.1.block k hk).1)
end
end Go.Proofs.YtaajkcngcalgoaaGreat
namespace Go.Proofs.YtaajkcngcalgoaaGreat
open Go Go.Vc Go.Spx
attribute [local irreducible] Tryz.prog
section
variable {c c' d : Bool} {L M K base W : Nat} {w w' w'' : World} {v o u a q : Value} {x y : Int} {xs ys row : List Rat} {S P P' Q Q' : Nat → Prop} {cs vs : List Value} {b : Bin}
theorem sgn_inj {n1 n2 : Bool} {ws1 ws2 : List Nat} (t1 : Trim ws1) (t2 : Trim ws2) (d1 : Dig ws1) (d2 : Dig ws2) (h1 : n1 = true → ws1 ≠ []) (h2 : n2 = true → ws2 ≠ []) :
    sgn n1 (wval ws1) = sgn n2 (wval ws2) ↔ n1 = n2 ∧ ws1 = ws2 := by
  constructor
  · intro h
    cases n1 <;> cases n2 <;> simp only [sgn, Bool.false_eq_true, if_false, if_true] at h
    · exact ⟨rfl, Trim.inj t1 t2 d1 d2 (by omega)⟩
    · have := t2.pos (h2 rfl); omega
    · have := t1.pos (h1 rfl); omega
    · exact ⟨rfl, Trim.inj t1 t2 d1 d2 (by omega)⟩
  · rintro ⟨rfl, rfl⟩; rfl
theorem c161 (ha : CanZ TT w a x) (hb : CanZ TT w q y) : CallP CC 161 [a, q] w fun r w' => Grow w w' ∧ r = .bool (decide (x = y)) := by
  obtain ⟨n1, s1, ws1, rfl, hw1, t1, e1, rfl⟩ := ha
  obtain ⟨n2, s2, ws2, rfl, hw2, t2, e2, rfl⟩ := hb
  have hiff := sgn_inj t1 t2 hw1.2 hw2.2 e1 e2
  apply call161
  refine BoxP.mk fun g2 w1 hg1 hl2 hl2' hb2 => BoxP.mk fun g3 w2 hg2 hl3 hl3' hb3 => ?_
  have hb2 : Blk w2 g2 28 [.bool n1, s1] := Blk.grow hb2 hg2
  have hb3 : Blk w2 g3 28 [.bool n2, s2] := hb3
  have hg02 := hg1.trans hg2
  refine px rfl (LoadP.fld (o := 0) hb2 ti4 rfl (px rfl (LoadP.fld (o := 0) hb3 ti4 rfl ?_)))
  by_cases hn : n1 = n2
  · subst hn
    refine px (v := .bool false) (by show some (Value.bool (n1 != n1)) = _; simp) (cF rfl ?_)
    refine px rfl (LoadP.fld (o := 1) hb2 ti26 rfl (px (hw1.grow hg02).1.len (px rfl (LoadP.fld (o := 1) hb3 ti26 rfl (px (hw2.grow hg02).1.len ?_)))))
    by_cases hl : ws1.length = ws2.length
    · refine px (v := .bool false) (by show some (Value.bool (((ws1.length : Nat) : Int) != ((ws2.length : Nat) : Int))) = _; simp [hl]) (px (v := .bool false) rfl (cF rfl ?_))
      refine ⟨fun y w' => ∃ i : Nat, y = .int .i64 (i : Nat) ∧ i ≤ ws1.length ∧ Grow w2 w' ∧ ws1.take i = ws2.take i, fun y _ => ws1.length - (vint y).toNat, ⟨0, rfl, by omega, Grow.refl _, rfl⟩, ?_⟩
      rintro _ - w3 ⟨i, rfl, hi, hg3, htk⟩
      have hb23 := hb2.grow hg3
      have hb33 := hb3.grow hg3
      have hw13 := (hw1.grow hg02).grow hg3
      have hw23 := (hw2.grow hg02).grow hg3
      have hlim := hw13.1.lim
      refine px rfl (LoadP.fld (o := 1) hb23 ti26 rfl (px hw13.1.len (px rfl (cD (fun hlt => ?_) (fun hge => ?_)))))
      · have hi1 : i < ws1.length := by omega
        have hi2 : i < ws2.length := by omega
        obtain ⟨ad1, had1⟩ := hw13.1.idx (k := .i64) hi1
        obtain ⟨ad2, had2⟩ := hw23.1.idx (k := .i64) hi2
        have had1' : indexAddrV (tyOf tyTab 26) s1 (.int .i64 (i : Nat)) = some ad1 := had1
        have had2' : indexAddrV (tyOf tyTab 26) s2 (.int .i64 (i : Nat)) = some ad2 := had2
        refine ⟨fun z _ => z = s1, fun z _ => z = .int .u32 (ws1[i] : Nat), fun z _ => z = s2, fun z _ => z = .int .u32 (ws2[i] : Nat), ?_, ?_, ?_, ?_, ?_, ?_, ?_, ?_, ?_, ?_⟩
        · exact fun _ _ => ⟨_, rfl⟩
        · intro w1 hg; exact LoadP.fld (C := CC) (o := 1) (hb23.grow hg) ti26 rfl ⟨Grow.refl _, fun _ _ => rfl⟩
        · intro _ w1 hg e; rw [e]; exact ⟨_, had1'⟩
        · intro _ w1 hg e; rw [e, had1']; exact (hw13.grow hg).1.load1 (C := CC) ti199 had1 (u := .int .u32 (ws1[i] : Nat)) (by simp [u32s, List.getElem?_eq_getElem hi1]) ⟨Grow.refl _, fun _ _ => rfl⟩
        · exact fun _ _ _ _ => ⟨_, rfl⟩
        · intro _ _ w1 hg; exact LoadP.fld (C := CC) (o := 1) (hb33.grow hg) ti26 rfl ⟨Grow.refl _, fun _ _ => rfl⟩
        · intro _ _ _ w1 hg e; rw [e]; exact ⟨_, had2'⟩
        · intro _ _ _ w1 hg e; rw [e, had2']; exact (hw23.grow hg).1.load1 (C := CC) ti199 had2 (u := .int .u32 (ws2[i] : Nat)) (by simp [u32s, List.getElem?_eq_getElem hi2]) ⟨Grow.refl _, fun _ _ => rfl⟩
        · intro _ _ _ _ w1 hg _ e1 _ e2; rw [e1, e2]; exact ⟨_, rfl⟩
        intro _ _ _ _ _ w20 hg20 _ e31 _ e36
        rw [e31, e36]
        show CondP (.bool (((ws1[i] : Nat) : Int) != ((ws2[i] : Nat) : Int))) _ _
        refine cB (fun hne => ?_) (fun heq => ?_)
        · have hne' : ws1[i] ≠ ws2[i] := by rw [bne_iff_ne] at hne; omega
          refine ⟨(hg02.trans hg3).trans hg20, ?_⟩
          rw [decide_eq_false]
          rw [hiff]
          rintro ⟨_, rfl⟩; exact hne' rfl
        · have heq' : ws1[i] = ws2[i] := by rw [bne_eq_false_iff_eq] at heq; omega
          refine pi rfl (by omega) ⟨⟨i + 1, by simp, by omega, hg3.trans hg20, ?_⟩, by simp only [vint_int]; omega⟩
          rw [List.take_add_one, List.take_add_one, htk, List.getElem?_eq_getElem hi1, List.getElem?_eq_getElem hi2, heq']
      · have : i = ws1.length := by omega
        subst this
        rw [List.take_length, hl, List.take_length] at htk
        refine ⟨hg02.trans hg3, ?_⟩
        rw [decide_eq_true]
        exact hiff.2 ⟨rfl, htk⟩
    · refine px (v := .bool true) (by show some (Value.bool (((ws1.length : Nat) : Int) != ((ws2.length : Nat) : Int))) = _; congr 2; rw [bne_iff_ne]; omega) (px (v := .bool true) rfl (cT rfl ⟨hg02, ?_⟩))
      rw [decide_eq_false]
      rw [hiff]
      rintro ⟨_, rfl⟩; exact hl rfl
  · have e10 : binV .bool .neq (.bool n1) (.bool n2) = some (.bool true) := by show some (Value.bool (n1 != n2)) = _; congr 2; simpa using hn
    refine px e10 (cT rfl (px (v := .bool true) rfl (cT rfl ?_)))
    refine ⟨hg02, ?_⟩
    rw [decide_eq_false]
    rw [hiff]
    rintro ⟨h, _⟩; exact hn h
theorem c99 {x y : Rat} (ha : QR true L w a x) (hb : QR true M w q y) : CallP CC 99 [a, q] w fun r w' => Grow w w' ∧ r = .bool (decide (x = y)) := by
  obtain ⟨b1, s1, b2, s2, rfl, hx1, hx2⟩ := ha.can
  obtain ⟨d1, t1, d2, t2, rfl, hy1, hy2⟩ := hb.can
  apply call99
  refine BoxP.mk fun g2 w1 hg1 hl2 hl2' hb2 => BoxP.mk fun g3 w2 hg2 hl3 hl3' hb3 => ?_
  have hb2 : Blk w2 g2 30 [b1, s1, b2, s2] := Blk.grow hb2 hg2
  have hb3 : Blk w2 g3 30 [d1, t1, d2, t2] := hb3
  have hg02 := hg1.trans hg2
  have ld : ∀ {g o : Nat} {c1 c2 : Value} {cs : List Value} {w : World} {k : Value → World → Prop}, Blk w g 30 cs → cs[o]? = some c1 → cs[o + 1]? = some c2 → k (.agg #[c1, c2]) w → LoadP CC 28 (.pointer (some ⟨g, o, none⟩)) w k := by
    intro g o c1 c2 cs w k hb h1 h2 hk
    refine LoadP.many (C := CC) (cs := [c1, c2]) ti28 hb rfl (fun j u hu => ?_) hk
    match j, hu with
    | 0, hu => simp at hu; subst hu; simpa using h1
    | 1, hu => simp at hu; subst hu; simpa using h2
  refine px rfl (ld hb2 rfl rfl (px rfl (ld hb3 rfl rfl ((c161 (hx1.grow hg02) (hy1.grow hg02)).mono ?_))))
  rintro _ w5 ⟨hg5, rfl⟩
  have hg05 := hg02.trans hg5
  by_cases hn : x.num = y.num
  · rw [decide_eq_true hn]
    refine cT rfl (px rfl (ld (hb2.grow hg5) rfl rfl (px rfl (ld (hb3.grow hg5) rfl rfl ((c161 (hx2.grow hg05) (hy2.grow hg05)).mono ?_)))))
    rintro _ w8 ⟨hg8, rfl⟩
    refine px rfl ⟨hg05.trans hg8, ?_⟩
    have hd : ((if x.den = 1 then 0 else (x.den : Int)) = (if y.den = 1 then 0 else (y.den : Int))) ↔ x = y := by
      have h1 := x.den_pos
      have h2 := y.den_pos
      constructor
      · intro h
        refine Rat.ext hn ?_
        split at h <;> split at h <;> omega
      · rintro rfl; rfl
    show Value.bool _ = _
    congr 1
    exact decide_eq_decide.2 hd
  · rw [decide_eq_false hn]
    refine cF rfl (px (v := .bool false) rfl ⟨hg05, ?_⟩)
    rw [decide_eq_false fun h => hn (by rw [h])]
theorem c98 {xs ys : List Rat} (ha : Vec true L P w a xs) (hb : Vec true M Q w q ys) : CallP CC 98 [a, q] w fun r w' => Grow w w' ∧ r = .bool (decide (xs = ys)) := by
  have hlim := ha.lim
  apply call98
  refine px ha.len (px hb.len ?_)
  by_cases hl : xs.length = ys.length
  · refine px (v := .bool false) (by show some (Value.bool (((xs.length : Nat) : Int) != ((ys.length : Nat) : Int))) = _; simp [hl]) (cF rfl ?_)
    refine ⟨fun y w' => ∃ i : Nat, y = .int .i64 (i : Nat) ∧ i ≤ xs.length ∧ Grow w w' ∧ xs.take i = ys.take i, fun y _ => xs.length - (vint y).toNat, ⟨0, rfl, by omega, Grow.refl _, rfl⟩, ?_⟩
    rintro _ - w1 ⟨i, rfl, hi, hg1, htk⟩
    have ha1 := ha.grow hg1
    have hb1 := hb.grow hg1
    refine px ha.len (px rfl (cD (fun hlt => ?_) (fun hge => ?_)))
    · have hi1 : i < xs.length := by omega
      have hi2 : i < ys.length := by omega
      obtain ⟨ad1, had1⟩ := ha1.idx (k := .i64) hi1
      obtain ⟨ad2, had2⟩ := hb1.idx (k := .i64) hi2
      have had1' : indexAddrV (tyOf tyTab 23) a (.int .i64 (i : Nat)) = some ad1 := had1
      have had2' : indexAddrV (tyOf tyTab 23) q (.int .i64 (i : Nat)) = some ad2 := had2
      refine ⟨fun z w' => QR true L w' z (qat xs i), fun z w' => QR true M w' z (qat ys i), fun z _ => z = .bool (decide (qat xs i = qat ys i)), ?_, ?_, ?_, ?_, ?_, ?_, ?_⟩
      · exact fun _ _ => ⟨_, had1'⟩
      · intro w5 hg; rw [had1']; exact (ha1.grow hg).load had1 (qat_get hi1) fun r hr => ⟨Grow.refl _, fun w9 ht => hr.grow ht⟩
      · exact fun _ _ _ => ⟨_, had2'⟩
      · intro _ w5 hg; rw [had2']; exact (hb1.grow hg).load had2 (qat_get hi2) fun r hr => ⟨Grow.refl _, fun w9 ht => hr.grow ht⟩
      · intro _ _ w5 hg h1 h2; exact fc (c99 h1 h2) fun r w5 w6 hr _ => hr
      · intro _ _ _ w5 hg _ _ e; rw [e]; exact ⟨_, rfl⟩
      intro _ _ _ _ w11 hg11 _ _ e
      rw [e]
      show CondP (.bool (!decide (qat xs i = qat ys i))) _ _
      by_cases he : qat xs i = qat ys i
      · rw [decide_eq_true he]
        refine cF rfl (pi rfl (by omega) ⟨⟨i + 1, by simp, by omega, hg1.trans hg11, ?_⟩, by simp only [vint_int]; omega⟩)
        rw [List.take_add_one, List.take_add_one, htk, qat_get hi1, qat_get hi2, he]
      · rw [decide_eq_false he]
        refine cT rfl ⟨hg1.trans hg11, ?_⟩
        rw [decide_eq_false]
        rintro rfl; exact he rfl
    · have : i = xs.length := by omega
      subst this
      rw [List.take_length, hl, List.take_length] at htk
      exact ⟨hg1, by rw [decide_eq_true htk]⟩
  · refine px (v := .bool true) (by show some (Value.bool (((xs.length : Nat) : Int) != ((ys.length : Nat) : Int))) = _; congr 2; rw [bne_iff_ne]; omega) (cT rfl ⟨Grow.refl _, ?_⟩)
    rw [decide_eq_false]
    rintro rfl; exact hl rfl
theorem c56 {xs : List Rat} {k : Nat} (h : BinR c L P w v b) (hx : Vec c' M Q w q xs) (h1 : 2 ≤ L) (h2 : 2 ≤ M) (hM : M ≤ 268435456) (hN : max (colsOf b.lp.rows) xs.length ≤ k) (hn : k < 1099511627776) (h4 : L + 3 + (k + 1) * (L + M + 1) < 268435456)
    (hrg : validP b.lp = true → b.bin.length ≤ 12 → ∀ i, i < b.bin.length → 0 ≤ iat b.bin i ∧ iat b.bin i < b.lp.vars) :
    CallP CC 56 [v, q] w fun r w' => Grow w w' ∧ r = .bool (feasB b xs) := by
  apply call56
  refine BinAt.box h fun g1 w1 hg1 hl1 hl1' hat1 => hat1.load ?_
  refine (c54 hat1.1 hrg).mono ?_
  rintro _ w3 ⟨hg3, rfl⟩
  have hat3 := hat1.grow hg3
  have hg03 := hg1.trans hg3
  refine px rfl ?_
  unfold feasB
  cases hv : validB b with
  | false => exact cT rfl (px (v := .bool true) rfl (cT rfl ⟨hg03, rfl⟩))
  | true =>
    refine cF rfl (px rfl (hat3.lp fun u hu => (c35 hu (hx.grow hg03) h1 h2 hM hN hn h4).mono ?_))
    rintro _ w7 ⟨hg7, rfl⟩
    have hat7 := hat3.grow hg7
    refine px rfl ?_
    cases hf : feasP b.lp xs with
    | false => exact px (v := .bool true) rfl (cT rfl ⟨hg03.trans hg7, rfl⟩)
    | true =>
      refine px (v := .bool false) rfl (cF rfl (hat7.load ?_))
      have hvp : validP b.lp = true ∧ b.bin.length ≤ 12 := by
        have := hv; unfold validB at this; simp only [Bool.and_eq_true, decide_eq_true_eq] at this; exact this.1
      refine (c112 hat7.1 (hx.grow (hg03.trans hg7)) (fun i hi => (hrg hvp.1 hvp.2 i hi).1) h2 hM).mono ?_
      rintro _ w9 ⟨hg9, rfl⟩
      have hg09 := (hg03.trans hg7).trans hg9
      cases hi : integral b.bin xs with
      | none => exact px rfl (px rfl ⟨hg09, rfl⟩)
      | some i => exact px rfl (px rfl ⟨hg09, rfl⟩)
end
end Go.Proofs.YtaajkcngcalgoaaGreat
namespace Go.Proofs.YtaajkcngcalgoaaGreat
open Go Go.Vc Go.Spx
attribute [local irreducible] Tryz.prog
section
variable {c c' d : Bool} {L M K base W : Nat} {w w' w'' : World} {v o u a q : Value} {x y : Rat} {xs ys row : List Rat} {S P P' Q Q' : Nat → Prop} {cs vs : List Value} {b : Bin} {l l1 l2 l3 : List Int} {m : List (List Rat)}
theorem lit102 {n : Nat} {ps : List (Nat × Value)} {k : Value → World → Prop} (l : List Int) (hn : l.length = n) (hl : n ≤ 1000) (hr : ∀ x ∈ l, -9223372036854775808 ≤ x ∧ x < 9223372036854775808)
    (hf : fillV (fun i => some (i * 1, 1)) (rep n [.int .i64 0]) ps = some (l.map fun n => .int .i64 n)) (hk : ∀ s w', Grow w w' → I64s (fun k => w.heap.size ≤ k) w' s l → k s w') : LitP CC 102 n ps w k := by
  subst hn
  refine LitP.mk (C := CC) sl102 ti2 rfl (by decide) (by omega) hf fun g w1 hg hlt hlt' hb => hk _ _ hg ⟨?_, hr⟩
  exact sli_blk hb (by simp) (by omega) hlt
theorem lit67 {n : Nat} {ps : List (Nat × Value)} {k : Value → World → Prop} (l : List Int) (hn : l.length = n) (hl : n ≤ 1000) (hr : ∀ x ∈ l, -9223372036854775808 ≤ x ∧ x < 9223372036854775808)
    (hf : fillV (fun i => some (i * 1, 1)) (rep n [.int .i64 0]) ps = some (l.map fun n => .int .i64 n)) (hk : ∀ s w', Grow w w' → Ints 3 (fun k => w.heap.size ≤ k) w' s l → k s w') : LitP CC 67 n ps w k := by
  subst hn
  refine LitP.mk (C := CC) sl67 ti3 rfl (by decide) (by omega) hf fun g w1 hg hlt hlt' hb => hk _ _ hg ⟨?_, hr⟩
  exact sli_blk hb (by simp) (by omega) hlt
theorem I64s.mono (h : I64s P w v l) (hq : ∀ k, k < w.heap.size → P k → Q k) : I64s Q w v l := ⟨h.1.mono hq, h.2⟩
theorem lit200_1 {k : Value → World → Prop} (h1 : I64s P w v l1) (hk : ∀ s w', Grow w w' → I64ss (fun k => P k ∨ w.heap.size ≤ k) w' s [l1] → k s w') : LitP CC 200 1 [(0, v)] w k := by
  obtain ⟨a1, c1, rfl, _⟩ := h1.1.shape
  refine LitP.mk (C := CC) sl200 ti102 rfl (by decide) (by decide) (cs := [.slice a1 l1.length c1]) rfl fun g w1 hg hlt hlt' hb => hk _ _ hg ⟨[.slice a1 l1.length c1], sli_blk hb rfl (by decide) (.inr hlt), fun i r hi => ?_⟩
  match i, hi with
  | 0, hi => cases hi; exact ⟨_, rfl, (h1.grow hg).mono fun k _ h => .inl h⟩
theorem lit200_3 {v1 v2 v3 : Value} {k : Value → World → Prop} (h1 : I64s P w v1 l1) (h2 : I64s P w v2 l2) (h3 : I64s P w v3 l3) (hk : ∀ s w', Grow w w' → I64ss (fun k => P k ∨ w.heap.size ≤ k) w' s [l1, l2, l3] → k s w') : LitP CC 200 3 [(0, v1), (1, v2), (2, v3)] w k := by
  obtain ⟨a1, c1, rfl, _⟩ := h1.1.shape
  obtain ⟨a2, c2, rfl, _⟩ := h2.1.shape
  obtain ⟨a3, c3, rfl, _⟩ := h3.1.shape
  refine LitP.mk (C := CC) sl200 ti102 rfl (by decide) (by decide) (cs := [.slice a1 l1.length c1, .slice a2 l2.length c2, .slice a3 l3.length c3]) rfl fun g w1 hg hlt hlt' hb => hk _ _ hg ⟨_, sli_blk hb rfl (by decide) (.inr hlt), fun i r hi => ?_⟩
  match i, hi with
  | 0, hi => cases hi; exact ⟨_, rfl, (h1.grow hg).mono fun k _ h => .inl h⟩
  | 1, hi => cases hi; exact ⟨_, rfl, (h2.grow hg).mono fun k _ h => .inl h⟩
  | 2, hi => cases hi; exact ⟨_, rfl, (h3.grow hg).mono fun k _ h => .inl h⟩
theorem c107 : CallP CC 107 [] w fun r w' => Grow w w' ∧ BinR true 7 (fun k => w.heap.size ≤ k) w' r knapB := by
  apply call107
  refine AllocP.mk (C := CC) ti69 fun g0 w1 hg1 hl0 hl0' hb0 => ?_
  have z1 := hg1.size
  refine lit102 [5, 4, 3] rfl (by decide) (by decide) rfl fun s2 w2 hg2 h2 => lit200_1 h2 fun s3 w3 hg3 h3 => (c97 h3).mono ?_
  rintro vo w4 ⟨hg4, ho⟩
  refine lit102 [2, 3, 1] rfl (by decide) (by decide) rfl fun s5 w5 hg5 h5 => lit102 [4, 1, 2] rfl (by decide) (by decide) rfl fun s6 w6 hg6 h6 => lit102 [3, 4, 2] rfl (by decide) (by decide) rfl fun s7 w7 hg7 h7 => ?_
  refine lit200_3 (P := fun _ => True) (((h5.grow hg6).grow hg7).mono fun _ _ _ => trivial) ((h6.grow hg7).mono fun _ _ _ => trivial) (h7.mono fun _ _ _ => trivial) fun s8 w8 hg8 h8 => (c97 h8).mono ?_
  rintro vr w9 ⟨hg9, hr⟩
  refine lit102 [5, 11, 8] rfl (by decide) (by decide) rfl fun s10 w10 hg10 h10 => (c73 h10).mono ?_
  rintro vb w11 ⟨hg11, hb⟩
  have g14 := (hg2.trans hg3).trans hg4
  have g49 := (((hg5.trans hg6).trans hg7).trans hg8).trans hg9
  have g911 := hg10.trans hg11
  have z2 := hg2.size; have z3 := hg3.size; have z4 := hg4.size; have z49 := g49.size; have z5 := hg5.size; have z6 := hg6.size; have z7 := hg7.size; have z8 := hg8.size; have z9 := hg9.size; have z10 := hg10.size; have z11 := hg11.size
  have ho11 := ((ho.le (M := 7) (by decide)).mat (by decide)).grow (g49.trans g911) |>.mono (Q := fun k => w1.heap.size ≤ k ∧ k < w11.heap.size) (Q' := fun k => w1.heap.size ≤ k ∧ k < w11.heap.size) (fun k hk h => ⟨by omega, hk⟩) (fun k hk h => ⟨by omega, hk⟩)
  have hr11 := ((hr.le (M := 7) (by decide)).mat (by decide)).grow g911 |>.mono (Q := fun k => w1.heap.size ≤ k ∧ k < w11.heap.size) (Q' := fun k => w1.heap.size ≤ k ∧ k < w11.heap.size) (fun k hk h => ⟨by omega, hk⟩) (fun k hk h => ⟨by omega, hk⟩)
  have hb11 := ((hb.le (M := 7) (by decide)).vec (by decide)).mono (Q := fun k => w1.heap.size ≤ k ∧ k < w11.heap.size) fun k hk h => ⟨by omega, hk⟩
  have oo := ho11.one
  obtain ⟨oa, oc, rfl⟩ := ho.len
  obtain ⟨ra, rc, rfl⟩ := hr.len
  obtain ⟨ba, bc, rfl⟩ := hb.len
  refine px rfl (AllocP.mk (C := CC) ti25 fun g1 w12 hg12 hl1 hl1' hb1 => ?_)
  have z12 := hg12.size
  refine StoreP.row (C := CC) (cs := [.int .i64 3, .slice oa 1 oc, .slice ra 3 rc, .slice ba 3 bc]) hb1 ti25 rfl rfl (by simp [Value.oneCell']) fun w13 hu13 hb13 => ?_
  have hm13 : Md (fun k => k = g1) w12 w13 := Md.of hu13 hb1 (by decide)
  have z13 := hm13.size
  have hg1113 : Grow w11 w13 := Md.new hg12 hm13 fun k hk => by omega
  refine LoadP.row (C := CC) ti25 hb13 rfl (lit67 [0, 1, 2] rfl (by decide) (by decide) rfl fun s14 w15 hg15 h14 => ?_)
  have z15 := hg15.size
  have h14o := h14.one
  obtain ⟨ia, ic, rfl, _⟩ := h14.1.shape
  have hg111 := (g14.trans g49).trans g911
  have hb015 := ((hb0.grow hg111).grow hg1113).grow hg15
  refine px rfl (StoreP.row (C := CC) (cs := [.int .i64 3, .slice oa 1 oc, .slice ra 3 rc, .slice ba 3 bc, .slice ia 3 ic]) hb015 ti69 rfl rfl (by simp [Value.oneCell']) fun w16 hu16 hb16 => ?_)
  have hm16 : Md (fun k => k = g0) w15 w16 := Md.of hu16 hb015 (by decide)
  have hg1115 := hg1113.trans hg15
  have nS : ∀ k, w1.heap.size ≤ k ∧ k < w11.heap.size → ¬ k = g0 := fun k hk e => by omega
  refine ⟨_, _, rfl, res_row (P := CC.P) ti69 hb16 rfl, Md.new hg1 ((Md.grow ((hg111.trans hg1115))).trans hm16 |> fun h => h.mono (S' := fun k => k = g0) fun k hk => hk) fun k hk => by omega, _, _, _, _, rfl, ⟨_, _, _, rfl, ?_, ?_, ?_, by decide⟩, ?_⟩
  · exact ((ho11.grow hg1115).md hm16 nS nS).mono (fun k _ hk => by omega) fun k _ hk => by omega
  · exact ((hr11.grow hg1115).md hm16 nS nS).mono (fun k _ hk => by omega) fun k _ hk => by omega
  · exact ((hb11.grow hg1115).md hm16 nS).mono fun k _ hk => by omega
  · exact (h14.md hm16 fun k hk e => by omega).mono fun k _ hk => by omega
theorem I64s.idx (h : I64s P w v l) {i : Nat} (hi : i < l.length) : ∃ x, indexAddrV (.slice 1) v (.int .i64 (i : Nat)) = some x := h.1.idx hi
theorem I64s.load {i : Nat} {ad : Value} (h : I64s P w v l) (hx : indexAddrV (.slice 1) v (.int .i64 (i : Nat)) = some ad) (hi : i < l.length) {k : Value → World → Prop} (hk : k (.int .i64 (iat l i)) w) : LoadP CC 2 ad w k :=
  h.1.load1 (C := CC) ti2 hx (by rw [List.getElem?_map, iat_get hi]; rfl) hk
theorem I64s.md (h : I64s P w v l) (hm : Md S w w') (hd : ∀ k, P k → ¬ S k) : I64s P w' v l := ⟨h.1.md hm hd, h.2⟩
theorem c108 (ha : I64s P w a l1) (hq : I64s Q w q l2) (hl1 : l1.length ≤ 1000) : CallP CC 108 [a, q] w fun r w' => Grow w w' ∧ BinR true 7 (fun k => w.heap.size ≤ k) w' r (oneB l1 l2) := by
  have ha0 : I64s (fun k => k < w.heap.size) w a l1 := ha.mono fun k hk _ => hk
  have hl2 : l2.length ≤ 1099511627776 := hq.1.lim
  apply call108
  refine AllocP.mk (C := CC) ti69 fun g4 w1 hg1 hl4 hl4' hb4 => ?_
  have z1 := hg1.size
  refine lit102 [1] rfl (by decide) (by decide) rfl fun s7 w2 hg2 h2 => lit200_1 h2 fun s8 w3 hg3 h3 => (c97 h3).mono ?_
  rintro vo w4 ⟨hg4, ho⟩
  have g14 := (hg2.trans hg3).trans hg4
  have z2 := hg2.size; have z3 := hg3.size; have z4 := hg4.size
  refine (c73 ((hq.grow hg1).grow g14)).mono ?_
  rintro vb w5 ⟨hg5, hb⟩
  have z5 := hg5.size
  have hg05 := (hg1.trans g14).trans hg5
  have hg15' := g14.trans hg5
  have ho5 := ((ho.le (M := 7) (by decide)).mat (by decide)).grow hg5 |>.mono (Q := fun k => w1.heap.size ≤ k ∧ k < w5.heap.size) (Q' := fun k => w1.heap.size ≤ k ∧ k < w5.heap.size) (fun k hk h => ⟨by omega, hk⟩) (fun k hk h => ⟨by omega, hk⟩)
  have hb5 := ((hb.le (M := 7) (by decide)).vec (by simp [ratsOf]; omega)).mono (Q := fun k => w1.heap.size ≤ k ∧ k < w5.heap.size) fun k hk h => ⟨by omega, hk⟩
  obtain ⟨oa, oc, rfl⟩ := ho.len
  obtain ⟨ba, bc, rfl⟩ := hb.len
  refine px rfl (AllocP.mk (C := CC) ti25 fun g5 w6 hg6 hl5 hl5' hb56 => ?_)
  have z6 := hg6.size
  refine StoreP.row (C := CC) (cs := [.int .i64 1, .slice oa 1 oc, .slice none 0 0, .slice ba (ratsOf l2).length bc]) hb56 ti25 rfl rfl (by simp [Value.oneCell']) fun w7 hu7 hb57 => ?_
  have hm7 : Md (fun k => k = g5) w6 w7 := Md.of hu7 hb56 (by decide)
  have z7 := hm7.size
  have hm57 : Md (fun k => w5.heap.size ≤ k) w5 w7 := (Md.grow hg6).trans (hm7.mono fun k hk => by omega)
  refine ⟨fun y w' => ∃ (i : Nat) (vR : Value), y = .int .i64 (i : Nat) ∧ i ≤ l1.length ∧ Md (fun k => w5.heap.size ≤ k) w5 w' ∧ Blk w' g5 25 [.int .i64 1, .slice oa 1 oc, vR, .slice ba (ratsOf l2).length bc] ∧ MatO true 7 (fun k => w5.heap.size ≤ k) w5.heap.size w' vR ((l1.map fun r => ratsOf [r]).take i), fun y _ => l1.length - (vint y).toNat,
    ⟨0, .slice none 0 0, rfl, by omega, hm57, hb57, MatO.nil⟩, ?_⟩
  rintro _ - w8 ⟨i, vR, rfl, hi, hm8, hb58, hR⟩
  have z8 := hm8.size
  have ha8 := (ha0.grow hg05).md hm8 fun k hk => by omega
  refine px ha8.1.len (px rfl (cD (fun hlt => ?_) (fun hge => ?_)))
  · have hil : i < l1.length := by omega
    obtain ⟨ad, had⟩ := ha8.idx hil
    have had' : indexAddrV (tyOf tyTab 102) a (.int .i64 (i : Nat)) = some ad := had
    obtain ⟨z, hz⟩ : ∃ z, z = iat l1 i := ⟨_, rfl⟩
    have hzr : -9223372036854775808 ≤ z ∧ z < 9223372036854775808 := by rw [hz]; exact ha8.2 _ (List.mem_of_getElem? (iat_get hil))
    have hRb := hR.block
    have hne : vR.ownBlock ≠ some g5 := hR.ne hb58 (by decide)
    have hml : ((l1.map fun r => ratsOf [r]).take i).length < 1099511627776 := by simp; omega
    have hsn : (l1.map fun r => ratsOf [r]).take (i + 1) = (l1.map fun r => ratsOf [r]).take i ++ [ratsOf [z]] := take_snoc (by rw [List.getElem?_map, iat_get hil, hz]; rfl)
    refine ⟨PhS (fun k => k = g5 ∨ vR.ownBlock = some k), fun l w' => match l with
        | [] => MatO true 7 (fun k => w5.heap.size ≤ k) w5.heap.size w' vR ((l1.map fun r => ratsOf [r]).take i) ∧ Blk w' g5 25 [.int .i64 1, .slice oa 1 oc, vR, .slice ba (ratsOf l2).length bc]
        | [a] => MatO true 7 (fun k => w5.heap.size ≤ k) w5.heap.size w' a ((l1.map fun r => ratsOf [r]).take (i + 1)) ∧ Blk w' g5 25 [.int .i64 1, .slice oa 1 oc, vR, .slice ba (ratsOf l2).length bc]
        | a :: _ => MatO true 7 (fun k => w5.heap.size ≤ k) w5.heap.size w' a ((l1.map fun r => ratsOf [r]).take (i + 1)) ∧ Blk w' g5 25 [.int .i64 1, .slice oa 1 oc, a, .slice ba (ratsOf l2).length bc],
      PhS.grow _, PhS.trans _, fun w' hg => ⟨hR.grow hg, hb58.grow hg⟩,
      fun u _ => u = vR, fun u _ => u = .int .i64 z, fun u s' => s'.1 = 0 → I64s (fun _ => True) s'.2 u [z], fun u s' => s'.1 = 0 → VecO true 2 w8.heap.size s'.2 u (ratsOf [z]), fun u s' => s'.1 = 0 → ∃ t, One w8.heap.size 23 s'.2 u [t] ∧ VecO true 2 w8.heap.size s'.2 t (ratsOf [z]), fun _ _ => True, fun _ _ => True, ?_, ?_, ?_, ?_, ?_, ?_, ?_, ?_, ?_, ?_, ?_⟩
    any_goals ((try dsimp only [Fw, Fl]); intros; first | exact ⟨_, rfl⟩ | fail)
    · intro j w1 hn ht
      obtain ⟨rfl, hg⟩ := ht.z hn
      exact LoadP.fld (o := 2) (hb58.grow hg) ti22 rfl ⟨Grow.refl _, fun _ _ _ => rfl⟩
    · intro _ j w1 hn ht; exact ⟨_, had'⟩
    · intro _ j w1 hn ht
      obtain ⟨rfl, hg⟩ := ht.z hn
      rw [had']; exact (ha8.grow hg).load had hil ⟨Grow.refl _, fun _ _ _ => by rw [hz]⟩
    · intro _ v24 j w1 hn ht e
      rw [e]
      obtain ⟨rfl, hg⟩ := ht.z hn
      refine lit102 [z] rfl (by decide) (by simpa using hzr) rfl fun t w5 hg5 ho => ⟨hg5, fun m w6 ht hm => (ho.mono fun _ _ _ => trivial).grow (ht.z (Nat.le_of_eq hm)).2⟩
    · intro _ _ v25 j w1 hn ht _ h25
      obtain ⟨rfl, hg⟩ := ht.z hn
      exact fg (c73 (h25 rfl)) fun r w5 m w6 hr ht hm => (hr.down hg.size).grow (ht.z (Nat.le_of_eq hm)).2
    · intro _ _ _ v26 j w1 hn ht _ _ h26
      obtain ⟨rfl, hg⟩ := ht.z hn
      exact litV2 ((h26 rfl).vec (by simp [ratsOf])) fun t w5 hg5 ho => ⟨hg5, fun m w6 ht hm => ⟨v26, (One.down ho hg.size).grow (ht.z (Nat.le_of_eq hm)).2, ((h26 rfl).grow hg5).grow (ht.z (Nat.le_of_eq hm)).2⟩⟩
    · intro v20 _ _ _ v27 j w1 hn ht e hL
      subst e
      intros
      rename_i e20 _ _ _ h27
      rw [e20]
      have hg := ht.z0
      have zg := hg.size
      obtain ⟨t, ho, hut⟩ := h27 rfl
      refine appV2 (C := CC) rfl hL.1 ho (((hut.le (M := 7) (by decide)).vec (by simp [ratsOf])).mono fun k _ hk => by omega) (by omega) hml fun o' w' ho' hm hf => ?_
      rw [← hsn] at ho'
      exact ⟨PhS.next (hm.mono fun k hk => .inr hk), fun _ _ _ => trivial, fun w'' hg => ⟨ho'.grow hg, (hL.2.md hm hne).grow hg⟩⟩
    · intro _ _ _ _ _ a1 j w1 hn ht e hL
      subst e
      intros
      refine StoreP.one (C := CC) (o := 2) ti22 hL.2 hL.1.one (by simp) fun w' hu' hb' => ?_
      have hm := Md.of hu' hL.2 (by decide)
      have hmat : MatO true 7 (fun k => w5.heap.size ≤ k) w5.heap.size w' a1 ((l1.map fun r => ratsOf [r]).take (i + 1)) := hL.1.md2 hm (fun k hk e => hL.1.ne hL.2 (by decide) (by rw [← e]; exact hk)) (fun k _ hk => NoB.of hL.2 (by decide) k hk)
      exact ⟨PhS.next (hm.mono fun k hk => .inl hk), fun _ _ _ => trivial, fun w'' hg => ⟨hmat.grow hg, hb'.grow hg⟩⟩
    intro _ _ _ _ _ vR1 _ _ w26 ht
    intros
    rename_i hL
    refine pi rfl (by omega) ⟨⟨i + 1, vR1, by simp, by omega, hm8.trans (ht.md.mono fun k hk => ?_), hL.2, hL.1⟩, by simp only [vint_int]; omega⟩
    rcases hk with rfl | hk
    · exact hl5
    · exact (hRb k hk).1
  · have : i = l1.length := by omega
    subst this
    rw [List.take_of_length_le (by simp)] at hR
    obtain ⟨ra, rc, rfl⟩ := hR.len
    refine LoadP.row (C := CC) ti25 hb58 rfl (lit67 [0] rfl (by decide) (by decide) rfl fun s14 w15 hg15 h14 => ?_)
    have z15 := hg15.size
    obtain ⟨ia, ic, rfl, _⟩ := h14.1.shape
    have hb48 : Blk w8 g4 69 _ := (hb4.grow hg15').md hm8 (by omega)
    have hb415 := hb48.grow hg15
    refine px rfl (StoreP.row (C := CC) (cs := [.int .i64 1, .slice oa 1 oc, .slice ra (l1.map fun r => ratsOf [r]).length rc, .slice ba (ratsOf l2).length bc, .slice ia 1 ic]) hb415 ti69 rfl rfl (by simp [Value.oneCell']) fun w16 hu16 hb16 => ?_)
    have hm16 : Md (fun k => k = g4) w15 w16 := Md.of hu16 hb415 (by decide)
    have hm815 : Md (fun k => w5.heap.size ≤ k) w5 w15 := hm8.trans (Md.grow hg15)
    have hgr : Grow w w16 := Md.new hg1 ((Md.grow hg15').trans ((hm815.mono (S' := fun k => w1.heap.size ≤ k ∨ k = g4) fun k hk => .inl (by omega)).trans (hm16.mono fun k hk => .inr hk))) fun k hk => by rcases hk with hk | hk <;> omega
    have n1 : ∀ k, w1.heap.size ≤ k ∧ k < w5.heap.size → ¬ w5.heap.size ≤ k := fun k hk e => by omega
    have n2 : ∀ k, w1.heap.size ≤ k ∧ k < w5.heap.size → ¬ k = g4 := fun k hk e => by omega
    refine ⟨_, _, rfl, res_row (P := CC.P) ti69 hb16 rfl, hgr, _, _, _, _, rfl, ⟨_, _, _, rfl, ?_, ?_, ?_, by show (-9223372036854775808 : Int) ≤ 1 ∧ (1 : Int) < 9223372036854775808; decide⟩, ?_⟩
    · exact ((ho5.md hm815 n1 n1).md hm16 n2 n2).mono (fun k _ hk => by omega) fun k _ hk => by omega
    · have h1 := (((hR.mat (by simp; omega)).grow hg15).md hm16 (fun k hk e => by omega) (fun k hk e => by omega))
      exact h1.mono (fun k _ hk => by omega) fun k _ hk => by omega
    · exact ((hb5.md hm815 n1).md hm16 n2).mono fun k _ hk => by omega
    · exact (h14.md hm16 fun k hk e => by omega).mono fun k _ hk => by omega
theorem sol1 : solveB 10 1000 100 knapB = some (0, [1, 1, 0], 5) := by decide +kernel
theorem sol2 : solveB 10 1000 100 (oneB [2] [1]) = some (0, [0], 3) := by decide +kernel
theorem sol3 : solveB 10 1000 100 (oneB [-2, 2] [-1, 1]) = some (8, [], 0) := by decide +kernel
theorem feas1 : feasB knapB [1, 1, 0] = true := by decide +kernel
theorem val1 : validB knapB = true := by decide +kernel
theorem rng1 : ∀ i, i < knapB.bin.length → 0 ≤ iat knapB.bin i ∧ iat knapB.bin i < knapB.lp.vars := by decide +kernel
theorem rng2 (rows most : List Int) : ∀ i, i < (oneB rows most).bin.length → 0 ≤ iat (oneB rows most).bin i ∧ iat (oneB rows most).bin i < (oneB rows most).lp.vars := by
  intro i hi
  have : i = 0 := by simp [oneB] at hi; omega
  subst this
  show (0 : Int) ≤ 0 ∧ (0 : Int) < 1
  decide
theorem BinR.le (h : BinR c L P w v b) (hl : L ≤ M) : BinR c M P w v b := by
  obtain ⟨o, r, bd, bi, rfl, ⟨_, _, _, h1, h2, h3, h4, h5⟩, h6⟩ := h
  exact ⟨o, r, bd, bi, rfl, ⟨_, _, _, h1, h2.le hl, h3.le hl, h4.le hl, h5⟩, h6⟩
theorem c48 : CallP CC 48 [] w fun r w' => Grow w w' ∧ r = .bool true := by
  apply call48
  refine c107.mono ?_
  rintro v11 w1 ⟨hg1, h11⟩
  refine (c51 (h11.le (M := 10) (by decide)) sol1 (by decide) (by decide) (by decide) (by decide) fun _ _ => rng1).mono ?_
  rintro _ w2 ⟨hg2, x13, rfl, hx13⟩
  refine px rfl (px rfl (px rfl (lit102 [2] rfl (by decide) (by decide) rfl fun s17 w3 hg3 h17 => lit102 [1] rfl (by decide) (by decide) rfl fun s18 w4 hg4 h18 => (c108 (h17.grow hg4) h18 (by decide)).mono ?_)))
  rintro v19 w5 ⟨hg5, h19⟩
  refine (c51 (h19.le (M := 10) (by decide)) sol2 (by decide) (by decide) (by decide) (by decide) fun _ _ => rng2 _ _).mono ?_
  rintro _ w6 ⟨hg6, x21, rfl, hx21⟩
  refine px rfl (px rfl (px rfl (lit102 [-2, 2] rfl (by decide) (by decide) rfl fun s25 w7 hg7 h25 => lit102 [-1, 1] rfl (by decide) (by decide) rfl fun s26 w8 hg8 h26 => (c108 (h25.grow hg8) h26 (by decide)).mono ?_)))
  rintro v27 w9 ⟨hg9, h27⟩
  refine (c51 (h27.le (M := 10) (by decide)) sol3 (by decide) (by decide) (by decide) (by decide) fun _ _ => rng2 _ _).mono ?_
  rintro _ w10 ⟨hg10, x29, rfl, hx29⟩
  have g210 := ((hg3.trans hg4).trans hg5).trans (hg6.trans ((hg7.trans hg8).trans (hg9.trans hg10)))
  have g610 := (hg7.trans hg8).trans (hg9.trans hg10)
  refine px rfl (px rfl (px rfl (px (v := .bool true) rfl (cT rfl ?_))))
  refine px (v := .bool true) rfl (px (v := .bool true) rfl (cT rfl ?_))
  refine px (v := .bool true) rfl (px (v := .bool true) rfl (cT rfl ?_))
  refine px (v := .bool true) rfl (px (v := .bool true) rfl (cT rfl ?_))
  refine px (v := .bool true) rfl (px (v := .bool true) rfl (cT rfl ?_))
  refine lit102 [1, 1, 0] rfl (by decide) (by decide) rfl fun s52 w11 hg11 h52 => (c73 h52).mono ?_
  rintro v53 w12 ⟨hg12, h53⟩
  have g1012 := hg11.trans hg12
  refine (c98 ((hx13.grow g210).grow g1012) (h53.vec (by decide))).mono ?_
  rintro _ w13 ⟨hg13, rfl⟩
  have e54 : decide (([1, 1, 0] : List Rat) = ratsOf [1, 1, 0]) = true := by decide +kernel
  rw [e54]
  refine px (v := .bool true) rfl (cT rfl ?_)
  refine lit102 [0] rfl (by decide) (by decide) rfl fun s58 w14 hg14 h58 => (c73 h58).mono ?_
  rintro v59 w15 ⟨hg15, h59⟩
  have g1015 := (g1012.trans hg13).trans (hg14.trans hg15)
  refine (c98 ((hx21.grow g610).grow g1015) (h59.vec (by decide))).mono ?_
  rintro _ w16 ⟨hg16, rfl⟩
  have e60 : decide (([0] : List Rat) = ratsOf [0]) = true := by decide +kernel
  rw [e60]
  refine px (v := .bool true) rfl (cT rfl ?_)
  refine c107.mono ?_
  rintro v63 w17 ⟨hg17, h63⟩
  refine (c54 h63 fun _ _ => rng1).mono ?_
  rintro _ w18 ⟨hg18, rfl⟩
  rw [val1]
  refine px (v := .bool true) rfl (cT rfl ?_)
  refine c107.mono ?_
  rintro v67 w19 ⟨hg19, h67⟩
  have g1019 := (g1015.trans hg16).trans ((hg17.trans hg18).trans hg19)
  refine (c56 (k := 3) h67 ((hx13.grow g210).grow g1019) (by decide) (by decide) (by decide) (by decide +kernel) (by decide) (by decide) fun _ _ => rng1).mono ?_
  rintro _ w20 ⟨hg20, rfl⟩
  rw [feas1]
  refine px (v := .bool true) rfl ⟨?_, rfl⟩
  exact (((hg1.trans hg2).trans g210).trans g1019).trans hg20
end
end Go.Proofs.YtaajkcngcalgoaaGreat
namespace Go.Proofs.YtaajkcngcalgoaaGreat
open Go
theorem fact1 : laidOutB Tryz.prog = true := by kernel_rfl
theorem fact2 : mapsRowed Tryz.prog = true := by kernel_rfl
theorem fact6 : (Tryz.prog.stops == []) = true := by kernel_rfl
theorem fact8 : (Tryz.prog.stopKnobs == []) = true := by kernel_rfl
theorem fact22 : (true == Tryz.prog.plainKeys) = true := by kernel_rfl
theorem fact24 : Tryz.prog.stopsHeard = true := by kernel_rfl
theorem fact25 : Tryz.prog.mayEnter = true := by kernel_rfl
end Go.Proofs.YtaajkcngcalgoaaGreat
namespace Go.Proofs.YtaajkcngcalgoaaGreat
open Go
theorem fact26 : ((Rows.binaryExamplesRow.lifted) == Tryz.prog.liftsFinal) = true := by kernel_rfl
theorem fact27 : (Tryz.prog.make == some Rows.binaryExamplesRow.make) = true := by kernel_rfl
end Go.Proofs.YtaajkcngcalgoaaGreat
namespace Go.Vc
open Go
theorem joined_of {P : Program} {f : FuncId} {fn : Func} {s : ChangeSpec} {c : OpenClaim}
    (h0 : (c.wf (OpenSpec.ofChange s)) = true)
    (h1 : (laidOutB P) = true)
    (h2 : (mapsRowed P) = true)
    (h3 : (fn.params.all (P.readableRec ·)) = true)
    (h4 : (namedTie P c.named s.vars) = true)
    (h5 : ((c.stops == [])) = true)
    (h6 : ((P.stops == [])) = true)
    (h7 : ((c.knobs == [])) = true)
    (h8 : ((P.stopKnobs == [])) = true)
    (h9 : ((c.inPlace == P.inPlace f)) = true)
    (h10 : ((c.unfollowed == P.unfollowed f)) = true)
    (h11 : ((c.recurses == P.recurses f)) = true)
    (h12 : ((c.named == P.varsNamed f)) = true)
    (h13 : ((c.maps == (fn.params.toList ++ s.plain.varTypes P).any (P.mapsRec ·))) = true)
    (h14 : ((c.ifaces == (fn.params.toList ++ s.plain.varTypes P).any (P.ifacesRec ·))) = true)
    (h15 : ((c.mapsOut == P.mapsAmong fn.resultTypes.toList)) = true)
    (h16 : ((c.loops == (fn.params.toList ++ s.plain.varTypes P).any (P.loopsFrom ·))) = true)
    (h17 : ((c.wideKeys == (fn.params.toList ++ s.plain.varTypes P ++ fn.resultTypes.toList).any (P.wideKeysFrom ·))) = true)
    (h18 : (s.vars.all (P.varReadable ·)) = true)
    (h19 : (fn.resultTypes.all (fun t => P.readableRec t && decide (t < P.types.size))) = true)
    (h20 : ((c.ifacesOut == fn.resultTypes.toList.any (P.ifacesRec ·))) = true)
    (h21 : ((c.loopsOut == fn.resultTypes.toList.any (P.loopsFrom ·))) = true)
    (h22 : ((c.plainKeys == P.plainKeys)) = true)
    (h23 : (c.shortTexts.isNone) = true)
    (h24 : (P.stopsHeard) = true)
    (h25 : (P.mayEnter) = true)
    (h26 : ((c.lifted == P.liftsFinal)) = true)
    (h27 : ((P.make == some c.make)) = true)
    (h28 : ((c.kinds == (if c.domain.isEmpty then [] else fn.params.toList.map fun t => match P.underlying t with | some (.int k) => some k | _ => none))) = true)
    (h29 : ((c.pinned == c.pinnedBy)) = true)
    (h30 : ((c.veiled == (fn.params.toList ++ s.plain.varTypes P ++ fn.resultTypes.toList).any (P.veiledRec ·))) = true)
    (h31 : (c.veiledFits P fn.params.toList (fn.params.toList ++ s.plain.varTypes P ++ fn.resultTypes.toList)) = true) : joinedFacts P f fn s c = true := by
  simp only [joinedFacts, Bool.and_eq_true]
  exact ⟨⟨⟨⟨⟨⟨⟨⟨⟨⟨⟨⟨⟨⟨⟨⟨⟨⟨⟨⟨⟨⟨⟨⟨⟨⟨⟨⟨⟨⟨⟨h0, h1⟩, h2⟩, h3⟩, h4⟩, h5⟩, h6⟩, h7⟩, h8⟩, h9⟩, h10⟩, h11⟩, h12⟩, h13⟩, h14⟩, h15⟩, h16⟩, h17⟩, h18⟩, h19⟩, h20⟩, h21⟩, h22⟩, h23⟩, h24⟩, h25⟩, h26⟩, h27⟩, h28⟩, h29⟩, h30⟩, h31⟩
end Go.Vc
set_option maxRecDepth 100000
set_option linter.unusedVariables false
namespace Go.Proofs.YtaajkcngcalgoaaGreat
open Go Go.Vc
def V9 (w : World) (R : Value → World → Prop) : Prop :=
  CallP CC 48 [] w fun x1 w_1 =>
  R x1 w_1
theorem V9_eq (w : World) (R : Value → World → Prop) : V9  w R = FnP CC { keep := fun _ => [], lin := fun _ => [] } Tryz.f9 [] w R := by kernel_rfl
theorem call9 {w : World} {R : Value → World → Prop} (h : V9  w R) : CallP CC 9 [] w R :=
  call_of_vc CC.ok _ Tryz.func9 (V9_eq  w R ▸ h)
end Go.Proofs.YtaajkcngcalgoaaGreat
namespace Go.Proofs.YtaajkcngcalgoaaGreat.binaryExamples
open Go Go.Vc Go.ChangeShapes Go.WideShapes Go.ChangeAt Go.RowKit
set_option linter.unusedVariables false
theorem own : ownKnob Tryz.prog.godebug = none := by kernel_rfl
theorem walk (w : World) : Calls Tryz.prog 9 #[] w fun e w' => e = .returned (.bool true) ∧ Grow w w' := by
  have h : CallP CC 9 [] w fun r w' => Grow w w' ∧ r = .bool true := by
    apply call9
    refine c48.mono ?_
    rintro _ w1 ⟨hg, rfl⟩
    exact ⟨hg, rfl⟩
  refine Calls.mono (w := w) (f := 9) (args := #[]) h ?_
  rintro e w' ⟨v, rfl, _, hg, rfl⟩
  exact ⟨rfl, hg⟩
set_option maxRecDepth 100000 in
theorem lifted (os : Os) (started : os.Started) (H : Type) (enc : TypeId × Value → H) :
    ReturnsInHanded {} Tryz.checked os 9 .any (Rows.binaryExamplesSpec.pre6 enc Tryz.prog Tryz.f9 Rows.binaryExamplesRow.domain false) (Rows.binaryExamplesSpec.post enc Tryz.prog Tryz.f9 false true false false) := by
  refine returnsInHanded_of_change (C := Tryz.checked) own started (by kernel_rfl) Tryz.func9
    (ChangeSpec.witness6 (enc := enc) (C := Tryz.checked) false ⟨#[], #[], []⟩ 8 (by kernel_rfl) (by kernel_rfl) (by kernel_rfl) (by kernel_rfl)) ?_
  intro W base args ds gs before hval0 hW hcnd _
  have hval : ∀ (j : Nat) t v, Tryz.f9.params[j]? = some t → args[j]? = some v → Value.okWide Tryz.prog W .any base t v := hval0
  have hW' := hW
  obtain ⟨p, q, hA0, hV, rfl, hfz, hnd⟩ := hW
  have hA : DataW.TrodAll enc Tryz.prog W 0 (fun _ => true) true Tryz.f9.params.toList args.toList ds p := hA0
  rw [Tryz.params9] at hA hval
  obtain ⟨rfl, rfl, rfl⟩ := trodAll_none hA
  obtain ⟨rfl, rfl⟩ := trodVars_none hV
  clear hA0 hval0
  simp only [List.append_nil] at hW'
  refine (walk W).mono fun e W' ⟨he, hg⟩ => ?_
  subst he
  exact ⟨_, rfl, post_of_grow (pa := []) (pv := []) hW' (fun _ _ _ => (trodAll_cons_mk (shut_bool Tryz.underlying4 _) trodAll_mk0)) (fun sp _ => rfl) (fun _ _ => rfl) rfl
    hg (ok_one (by kernel_rfl) rfl (okWide_bool_mk Tryz.underlying4 _))⟩
theorem closed : joinedFacts Tryz.prog 9 Tryz.f9 Rows.binaryExamplesSpec Rows.binaryExamplesRow = true :=
  joined_of (by kernel_rfl) fact1 fact2 (by kernel_rfl) (by kernel_rfl) (by kernel_rfl) fact6 (by kernel_rfl) fact8 (by kernel_rfl) (by kernel_rfl) (by kernel_rfl) (by kernel_rfl)
    (by kernel_rfl) (by kernel_rfl) (by kernel_rfl) (by kernel_rfl) (by kernel_rfl) (by kernel_rfl) (by kernel_rfl) (by kernel_rfl) (by kernel_rfl) fact22 (by kernel_rfl) fact24 fact25 fact26 fact27
    (by kernel_rfl) (by kernel_rfl) (by kernel_rfl) (by kernel_rfl)
theorem wrap : Func.isWrapper Tryz.prog Tryz.f9 Rows.binaryExamplesRow.wrapper Rows.binaryExamplesRow.mainSum := by
  unfold Func.isWrapper; first | (rw [if_pos (by decide +kernel)]; kernel_rfl) | (rw [if_neg (by decide +kernel)]; exact ⟨rfl, rfl⟩)
theorem over : Rows.binaryExamplesRow.holds Tryz.pinned (OpenSpec.ofChange Rows.binaryExamplesSpec) :=
  OpenClaim.holds_of_wide 9 Tryz.f9 rfl rfl rfl rfl rfl rfl rfl ⟨rfl, rfl, rfl, rfl, rfl⟩ rfl rfl rfl rfl rfl (by kernel_rfl) Tryz.func9 closed
    (of_decide_eq_true (by kernel_rfl)) wrap
    (fun os started H enc _ => lifted os started H enc)
theorem proved : Rows.BinaryExamplesSaid := over
#print axioms proved
end Go.Proofs.YtaajkcngcalgoaaGreat.binaryExamples
