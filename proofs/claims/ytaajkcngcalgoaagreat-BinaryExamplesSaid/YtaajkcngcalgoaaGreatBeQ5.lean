/- The law BinaryExamples: for every input the call returns true and leaves its arguments as they were. No condition. This text: a part of what that proof needs. -/
import Derived.Test.YtaajkcngcalgoaaGreatBeQ4
import Derived.KernelRfl
import Derived.WalkSmall
namespace Go.Proofs.YtaajkcngcalgoaaGreat
namespace Lx
open Go Go.Vc Go.Spx
attribute [local irreducible] Tryz.prog
section
variable {c c' d : Bool} {L M K base n : Nat} {w w' w'' : World} {v o u a b q fv : Value} {x y z : Rat} {xs ys row : List Rat} {m m' : List (List Rat)} {S P P' Q Q' : Nat → Prop} {cs vs : List Value} {s s' : St} {F : Wf} {g : Goal} {p : Lp}
def Rt (L base : Nat) (w : World) (vm vr vb : Value) (mm : List (List Rat)) (rr : List Rat) (bb : List Nat) : Prop :=
  MatO true L (fun k => vr.ownBlock ≠ some k) base w vm mm ∧ VecO true L base w vr rr ∧ IntO base w vb bb
section
variable {vm vr vb vm' vr' vb' : Value} {mm mm' : List (List Rat)} {rr rr' : List Rat} {bb bb' : List Nat}
theorem Rt.grow (h : Rt L base w vm vr vb mm rr bb) (hg : Grow w w') : Rt L base w' vm vr vb mm rr bb :=
  ⟨h.1.grow hg, h.2.1.grow hg, Vc.Own.grow h.2.2 hg⟩
theorem Rt.mat (h : Rt L base w vm vr vb mm rr bb) (hm : Md (fun k => vm.ownBlock = some k) w w') (hn : MatO true L (fun k => vr.ownBlock ≠ some k) base w' vm' mm') : Rt L base w' vm' vr vb mm' rr bb := by
  obtain ⟨⟨vs, h1, h1'⟩, ⟨rs, h2, h2'⟩, h3⟩ := h
  exact ⟨hn, VecO.md ⟨rs, h2, h2'⟩ hm (fun k hk e => own_apart h2 h1 (by decide) k hk e), Vc.Own.md h3 hm (fun k hk e => own_apart h3 h1 (by decide) k hk e)⟩
theorem Rt.right (h : Rt L base w vm vr vb mm rr bb) (hm : Md (fun k => vr.ownBlock = some k) w w') (hn : VecO true L base w' vr' rr') (hf : ∀ g, vr'.ownBlock = some g → vr.ownBlock = some g ∨ w.heap.size ≤ g) : Rt L base w' vm vr' vb mm rr' bb := by
  obtain ⟨⟨vs, h1, h1'⟩, ⟨rs, h2, h2'⟩, h3⟩ := h
  refine ⟨?_, hn, Vc.Own.md h3 hm (fun k hk e => own_apart h3 h2 (by decide) k hk e)⟩
  have h4 : MatO true L (fun k => vr.ownBlock ≠ some k ∧ k < w.heap.size) base w vm mm := MatO.mono ⟨vs, h1, h1'⟩ fun k hk h => ⟨h, hk⟩
  have h5 : MatO true L (fun k => vr.ownBlock ≠ some k ∧ k < w.heap.size) base w' vm mm := h4.md hm (fun k hk e => own_apart h1 h2 (by decide) k hk e) fun k hk e => hk.1 e
  exact h5.mono fun k _ hk e => by rcases hf k e with h | h; exact hk.1 h; omega
theorem Rt.base' (h : Rt L base w vm vr vb mm rr bb) (hm : Md (fun k => vb.ownBlock = some k) w w') (hn : IntO base w' vb' bb') : Rt L base w' vm vr vb' mm rr bb' := by
  obtain ⟨⟨vs, h1, h1'⟩, ⟨rs, h2, h2'⟩, h3⟩ := h
  exact ⟨MatO.md2 ⟨vs, h1, h1'⟩ hm (fun k hk e => own_apart h1 h3 (by decide) k hk e) (fun k _ hk => NoB.own h3 (by decide) k hk), VecO.md ⟨rs, h2, h2'⟩ hm (fun k hk e => own_apart h2 h3 (by decide) k hk e), hn⟩
theorem Rt.head {g : Nat} (h : Rt L base w vm vr vb mm rr bb) (hb : Blk w g 215 cs) (hm : Md (· = g) w w') : Rt L base w' vm vr vb mm rr bb := by
  obtain ⟨⟨vs, h1, h1'⟩, ⟨rs, h2, h2'⟩, h3⟩ := h
  have ne : ∀ {e sz n : Nat} {v : Value} {xs : List Value}, Vc.Own w base e sz v n xs → 215 ≠ e → ∀ k, v.ownBlock = some k → ¬ k = g := fun ho he k hk e => Vc.Own.ne ho hb he (by rw [← e]; exact hk)
  exact ⟨MatO.md2 ⟨vs, h1, h1'⟩ hm (ne h1 (by decide)) (fun k _ hk => NoB.of hb (by decide) k hk), VecO.md ⟨rs, h2, h2'⟩ hm (ne h2 (by decide)), Vc.Own.md h3 hm (ne h3 (by decide))⟩
end
theorem bin_add {a b : Nat} (h : a + b < 9223372036854775808) : binV (.int .i64) .add (.int .i64 (a : Nat)) (.int .i64 (b : Nat)) = some (.int .i64 ((a + b : Nat) : Int)) := by
  show some (Value.int .i64 (IntKind.i64.wrap ((a : Int) + (b : Int)))) = _
  rw [wrap_i64 (by omega)]; simp
theorem c162 (h : LpR c L P w v p) (hv0 : 0 ≤ p.vars) (hbl : p.bounds.length = p.rows.length) (hsz : p.n + p.rows.length + 1 ≤ 1024) (hc : begin_ L p = some s) (h1 : 2 ≤ L) (h2 : 4 * L + 6 ≤ 134217728) :
    CallP CC 162 [v] w fun r w' => Grow w w' ∧ ∃ F, r = .tuple #[.pointer (some ⟨F.g, 0, none⟩), .int .i64 ((p.n + p.rows.length : Nat) : Int)] ∧ F.cols = p.n + p.rows.length + 1 ∧ Wk L w.heap.size F w' s := by
  obtain ⟨N, hN⟩ : ∃ N, N = p.n := ⟨_, rfl⟩
  obtain ⟨R, hR⟩ : ∃ R, R = p.rows.length := ⟨_, rfl⟩
  have hvn : p.vars = (N : Int) := by rw [hN]; unfold Lp.n; omega
  rw [← hN, ← hR]
  apply call162
  refine LpAt.box h.old fun g1 w1 hg1 hl1 hl1' hat => ?_
  have z1 := hg1.size
  have fa0 : fieldAddrV (tyOf tyTab 25) 0 (.pointer (some ⟨g1, 0, none⟩)) = some (.pointer (some ⟨g1, 0, none⟩)) := rfl
  have fa2 : fieldAddrV (tyOf tyTab 25) 2 (.pointer (some ⟨g1, 0, none⟩)) = some (.pointer (some ⟨g1, 2, none⟩)) := rfl
  have fa3 : fieldAddrV (tyOf tyTab 25) 3 (.pointer (some ⟨g1, 0, none⟩)) = some (.pointer (some ⟨g1, 3, none⟩)) := rfl
  have elr : lenV (tyOf tyTab 22) (lpW v) = some (.int .i64 (R : Nat)) := by rw [hR]; exact h.rws.len
  refine ⟨fun u _ => u = lpW v, fun u _ => u = .int .i64 (N : Nat), ?_, ?_, ?_, ?_, ?_, ?_⟩
  · exact fun _ _ => ⟨_, fa2⟩
  · intro w2 hg
    rw [fa2]; exact (hat.grow hg).f2 (C := CC) rfl ⟨Grow.refl _, fun _ _ => rfl⟩
  · rintro _ w2 hg rfl; exact ⟨_, elr⟩
  · exact fun _ _ _ => ⟨_, fa0⟩
  · intro _ w2 hg
    rw [fa0, ← hvn]; exact (hat.grow hg).f0 (C := CC) rfl ⟨Grow.refl _, fun _ _ => rfl⟩
  rintro v13 _ _ w9 hg9 e13 rfl
  rw [e13, elr]
  simp only [gd, Option.getD_some]
  have a1 : binV (.int .i64) .add (.int .i64 (N : Nat)) (.int .i64 (R : Nat)) = some (.int .i64 ((N + R : Nat) : Int)) := bin_add (by omega)
  have a2 : binV (.int .i64) .add (.int .i64 ((N + R : Nat) : Int)) (.int .i64 1) = some (.int .i64 ((N + R + 1 : Nat) : Int)) := bin_add (b := 1) (by omega)
  refine px a1 (px a2 (px a1 (px a2 ?_)))
  refine MakeP.mk (C := CC) sl94 ti4 rfl (by decide) (by omega) (by simp only [maxLen]; omega) fun gs w10 hg10 hls hls' hbs => ?_
  refine px rfl (BoxP.mk fun g27 w11 hg11 hl27 hl27' hb27 => ?_)
  have hb27 : Blk w11 g27 215 [.slice none 0 0, .slice none 0 0, .slice none 0 0, .int .i64 ((N + R + 1 : Nat) : Int), .slice (some ⟨gs, 0, none⟩) (N + R + 1) (N + R + 1), .int .i64 0] := hb27
  refine MakeP.mk (C := CC) sl22 ti23 rfl (by decide) (by omega) (by simp only [maxLen]; omega) fun g29 w12 hg12 hl29 hl29' hb29 => ?_
  have z9 := hg9.size
  have z10 := hg10.size
  have z11 := hg11.size
  have z12 := hg12.size
  have hg112 : Grow w1 w12 := ((hg9.trans hg10).trans hg11).trans hg12
  have hg012 := hg1.trans hg112
  have hms : BoolO w.heap.size w10 (.slice (some ⟨gs, 0, none⟩) (N + R + 1) (N + R + 1)) (List.replicate (N + R + 1) false) := by
    unfold BoolO
    rw [List.length_replicate]
    have e : rep (N + R + 1) [Value.bool false] = (List.replicate (N + R + 1) false).map fun b => Value.bool b := by
      simp [rep, List.map_replicate]
    rw [← e]
    exact Vc.Own.base (Vc.Own.lit (sz := 1) hbs (by rw [length_rep]; simp) hls (by simp only [maxLen]; omega)) (by omega)
  have hms12 : BoolO w.heap.size w12 (.slice (some ⟨gs, 0, none⟩) (N + R + 1) (N + R + 1)) (List.replicate (N + R + 1) false) := Vc.Own.grow hms (hg11.trans hg12)
  have hb27' := hb27.grow hg12
  have hat12 := hat.grow hg112
  -- the column of the artificial variable
  have hminus : MatO true 2 (fun k => w12.heap.size ≤ k) w.heap.size w12 (.slice (some ⟨g29, 0, none⟩) R R) (List.replicate R []) := by
    refine ⟨rep R [.slice none 0 0], ?_, ?_, ?_⟩
    · rw [List.length_replicate]
      exact Vc.Own.lit hb29 (by rw [length_rep]; rfl) (by omega) (by simp only [maxLen]; omega)
    · rw [length_rep]; simp
    · intro i row hr
      rw [List.getElem?_replicate] at hr
      split at hr
      · cases hr
        refine ⟨.slice none 0 0, ?_, Vec.nil⟩
        rename_i hi
        rw [getElem?_rep _ (by decide)]
        simp only [List.length_singleton, Nat.mul_one, Nat.mod_one]
        rw [if_pos hi]; rfl
      · cases hr
  refine px (v := .int .i64 (R : Nat)) rfl ?_
  refine ⟨fun v' w' => ∃ i : Nat, v' = .int .i64 i ∧ i ≤ R ∧ Md (· = g29) w12 w' ∧ MatO true 2 (fun k => w12.heap.size ≤ k) w.heap.size w' (.slice (some ⟨g29, 0, none⟩) R R) (List.replicate i [-1] ++ List.replicate (R - i) []), fun v' _ => R - (vint v').toNat,
    ⟨0, rfl, by omega, Md.refl _, by simpa using hminus⟩, ?_⟩
  rintro _ - w13 ⟨i, rfl, hi, hm13, hmin⟩
  have z13 := hm13.size
  refine px rfl (cD (fun hlt => ?_) (fun hge => ?_))
  · have hlt' : i < R := by omega
    refine LitP.one (C := CC) (sz := 1) (v := .int .i64 (-1)) sl102 ti2 rfl (by decide) (by decide) rfl fun x37 w14 hg14 hone => ?_
    have hi64 : I64s (fun _ => True) w14 x37 [-1] := ⟨hone.sli rfl, by simp⟩
    refine (c73 hi64).mono ?_
    rintro r w15 ⟨hg15, hr⟩
    have z14 := hg14.size
    have hmin15 := (hmin.grow hg14).grow hg15
    have hil : i < (List.replicate i [(-1 : Rat)] ++ List.replicate (R - i) []).length := by simp; omega
    obtain ⟨g', hg', hidx⟩ := hmin15.idx (k := .i64) hil
    have eg : g' = g29 := by simpa [Value.ownBlock] using hg'.symm
    subst eg
    have hrv : Vec true 2 (fun k => w12.heap.size ≤ k) w15 r [-1] := (hr.vec (by simp [ratsOf])).mono fun k _ hk => by omega
    refine px hidx (hmin15.store2 hrv rfl hil fun w16 hm16 hmin16 => ?_)
    refine pi rfl (by omega) ⟨⟨i + 1, by simp, by omega, ((hm13.trans (Md.grow hg14)).trans (Md.grow hg15)).trans (hm16.mono fun k hk => by simpa [Value.ownBlock] using hk.symm), ?_⟩, by simp only [vint_int]; omega⟩
    have e : (List.replicate i [(-1 : Rat)] ++ List.replicate (R - i) []).set i [-1] = List.replicate (i + 1) [-1] ++ List.replicate (R - (i + 1)) [] := by
      apply List.ext_getElem?
      intro j
      rw [List.getElem?_set]
      simp only [List.getElem?_append, List.length_replicate, List.getElem?_replicate, List.length_append]
      by_cases e : i = j
      · subst e; rw [if_pos rfl, if_pos (by omega), if_pos (by omega), if_pos (by omega)]
      · rw [if_neg e]
        by_cases h2 : j < i
        · rw [if_pos h2, if_pos h2, if_pos (by omega), if_pos (by omega)]
        · rw [if_neg h2, if_neg (show ¬ j < i + 1 by omega)]
          by_cases h3 : j < R
          · rw [if_pos (by omega), if_pos (by omega)]
          · rw [if_neg (by omega), if_neg (by omega)]
    rw [e] at hmin16; exact hmin16
  have : i = R := by omega
  subst this
  have hg1213 : Grow w11 w13 := Md.new hg12 hm13 fun k hk => by omega
  have hg113 : Grow w1 w13 := ((hg9.trans hg10).trans hg11).trans hg1213
  have hg013 := hg1.trans hg113
  have hat13 := hat.grow hg113
  have hminv : Mat true 2 (fun k => w.heap.size ≤ k) (fun k => w12.heap.size ≤ k) w13 (.slice (some ⟨g29, 0, none⟩) i i) (List.replicate i [-1]) := by
    have := hmin.mat (by simp; omega)
    simpa using this
  refine px fa2 (hat13.f2 (C := CC) rfl ((c120 (r := (i : Nat)) (k := (N : Nat)) hat13.1.rws h1 (by omega)).mono ?_))
  rintro v45 w18 ⟨hg18, h45⟩
  refine (c141 (n := (i : Nat))).mono ?_
  rintro v47 w19 ⟨hg19, h47⟩
  have ecR : cut ((i : Nat) : Int) = i := by unfold cut; omega
  have ecN : cut ((N : Nat) : Int) = N := by unfold cut; omega
  rw [ecR, ecN] at h45
  rw [ecR] at h47
  have h45v := (h45.grow hg19).mat (by rw [grid_length]; omega)
  have h47v := h47.mat (by rw [ident_length]; omega)
  have hgc : ∀ (R C : Nat) (f : Nat → Nat → Rat), colsOf (grid R C f) ≤ C := fun R C f => by
    by_cases h0 : 0 < R
    · rw [grid_cols h0]; exact Nat.le_refl _
    · have : R = 0 := by omega
      subst this; simp [grid, colsOf]
  have hic : colsOf (ident i) ≤ i := by
    by_cases h0 : 0 < i
    · rw [ident_cols h0]; exact Nat.le_refl _
    · have : i = 0 := by omega
      subst this; simp [ident, colsOf]
  have hg45 := hgc i N (Spx.mat p.rows)
  refine (c140 h45v h47v h1 (by omega) (by omega) (by omega) (by rw [grid_length]; omega) (by rw [ident_length]; omega) (by omega)).mono ?_
  rintro v48 w20 ⟨hg20, h48⟩
  have hl48 : (concat (grid i N (Spx.mat p.rows)) (ident i)).length = i := by rw [concat_length, grid_length, ident_length]; omega
  have h48v := h48.mat (by rw [hl48]; omega)
  have hc48 : colsOf (concat (grid i N (Spx.mat p.rows)) (ident i)) ≤ N + i := Nat.le_trans (hgc _ _ _) (by omega)
  have hcm : colsOf (List.replicate i [(-1 : Rat)]) ≤ 1 := by
    by_cases h0 : 0 < i
    · rw [colsOf_all (n := 1) (by intro h; have := congrArg List.length h; simp at this; omega) fun r hr => by rw [List.eq_of_mem_replicate hr]; rfl]; exact Nat.le_refl _
    · have : i = 0 := by omega
      subst this; simp [colsOf]
  refine (c140 h48v (((hminv.grow hg18).grow hg19).grow hg20) (by omega) (by omega) (by omega) (by omega) (by rw [hl48]; omega) (by rw [List.length_replicate]; omega) (by omega)).mono ?_
  rintro v50 w21 ⟨hg21, h50⟩
  have hg1321 : Grow w13 w21 := ((hg18.trans hg19).trans hg20).trans hg21
  have hg121 := hg113.trans hg1321
  have hg021 := hg1.trans hg121
  have z1321 := hg1321.size
  have z18 := hg18.size
  have z19 := hg19.size
  have z20 := hg20.size
  have z21 := hg21.size
  have hall : Mat true L (fun k => k < w21.heap.size) (fun k => k < w21.heap.size) w21 v50 (allM N i p.rows) :=
    (((h50.mat (by rw [show concat _ _ = allM N i p.rows from rfl, allM_length]; omega)).mono (Q := fun k => k < w21.heap.size) (Q' := fun k => k < w21.heap.size) (fun k hk _ => hk) fun k hk _ => hk).le (by omega))
  have hall_len : (allM N i p.rows).length = i := allM_length
  have hat21 := hat.grow hg121
  have hb2721 := (hb27.grow hg1213).grow hg1321
  have hms21 : BoolO w.heap.size w21 (.slice (some ⟨gs, 0, none⟩) (N + i + 1) (N + i + 1)) (List.replicate (N + i + 1) false) := Vc.Own.grow hms ((hg11.trans hg1213 |> fun _ => hg11).trans (hg1213.trans hg1321))
  have hne1 : g1 ≠ g27 := by omega
  have hvs : Value.ownBlock (.slice (some ⟨gs, 0, none⟩) (N + i + 1) (N + i + 1)) = some gs := rfl
  have hgs27 : gs ≠ g27 := by omega
  have hgs21 : gs < w21.heap.size := by omega
  have hszi : N + i + 1 ≤ 1024 := by omega
  -- the loop over the rows
  refine ⟨fun v10 v52 w' => ∃ (j : Nat) (vm vr vb : Value), v52 = .int .i64 (j : Nat) ∧ j ≤ i ∧ v10 = .int .i64 ((leastIdx (resize p.bounds i) 0 0 ((resize p.bounds i).take j) : Nat) : Int) ∧ Md (fun k => k = g27 ∨ w21.heap.size ≤ k) w21 w' ∧
      Blk w' g27 215 [vm, vr, vb, .int .i64 ((N + i + 1 : Nat) : Int), .slice (some ⟨gs, 0, none⟩) (N + i + 1) (N + i + 1), .int .i64 0] ∧
      MatO true L (fun k => vr.ownBlock ≠ some k) w21.heap.size w' vm ((List.range j).map (row0 N i p.rows)) ∧ VecO true L w21.heap.size w' vr ((resize p.bounds i).take j) ∧ IntO w21.heap.size w' vb ((List.range j).map (N + ·)),
    fun _ v52 _ => i - (vint v52).toNat, ⟨0, .slice none 0 0, .slice none 0 0, .slice none 0 0, rfl, by omega, rfl, Md.refl _, hb2721, MatO.nil, VecO.nil, IntO.nil⟩, ?_⟩
  rintro _ _ - w22 ⟨j, vm, vr, vb, rfl, hj, rfl, hm22, hB, hM, hV, hI⟩
  have z22 := hm22.size
  have hg022 : Grow w w22 := Md.new hg021 hm22 fun k hk => by omega
  have hat22 := hat21.md hm22 (fun k hk => by omega) (by omega)
  have hall22 : Mat true L (fun k => k < w21.heap.size) (fun k => k < w21.heap.size) w22 v50 (allM N i p.rows) :=
    hall.md2 hm22 (fun k hk hs => by
      rcases hs with rfl | hs
      · exact fun c fr he => by unfold Blk at hb2721; rw [hb2721] at he; cases he
      · omega) (fun k hk hs => by
      rcases hs with rfl | hs
      · exact fun c fr he => by unfold Blk at hb2721; rw [hb2721] at he; cases he
      · omega)
  have hms22 : BoolO w.heap.size w22 (.slice (some ⟨gs, 0, none⟩) (N + i + 1) (N + i + 1)) (List.replicate (N + i + 1) false) := Vc.Own.md hms21 hm22 (fun k hk => by rw [hvs] at hk; cases hk; omega)
  have hlast : ∀ j, j < i → qat (resize p.bounds i) j = qat p.bounds j := fun j hj => resize_at hj
  refine px rfl (cD (fun hlt => ?_) (fun hge => ?_))
  · have hji : j < i := by omega
    have hjb : j < p.bounds.length := by omega
    have hrow := allM_row (n := N) (m := i) (rows := p.rows) hji
    have hjl : j < (allM N i p.rows).length := by rw [hall_len]; exact hji
    obtain ⟨ada, hada⟩ := hall22.idx (k := .i64) hjl
    have hada' : indexAddrV (tyOf tyTab 22) v50 (.int .i64 (j : Nat)) = _ := hada
    obtain ⟨adb, hadb⟩ := hat22.1.bnds.idx (k := .i64) hjb
    have hadb' : indexAddrV (tyOf tyTab 23) (lpB v) (.int .i64 (j : Nat)) = _ := hadb
    have hMb := hM.block
    have hVb := hV.block
    have hIb := Vc.Own.block hI
    have hS27 : ∀ k, (k = g27 ∨ vm.ownBlock = some k ∨ vr.ownBlock = some k ∨ vb.ownBlock = some k) → (k = g27 ∨ w21.heap.size ≤ k) ∧ k < w22.heap.size := by
      rintro k (rfl | hk | hk | hk)
      · exact ⟨.inl rfl, hB.lt⟩
      · exact ⟨.inr (hMb k hk).1, (hMb k hk).2⟩
      · exact ⟨.inr (hVb k hk).1, (hVb k hk).2⟩
      · exact ⟨.inr (hIb k hk).1, (hIb k hk).2⟩
    obtain ⟨vsv, hvsv⟩ : ∃ vsv : Value, vsv = .slice (some ⟨gs, 0, none⟩) (N + i + 1) (N + i + 1) := ⟨_, rfl⟩
    have rj1 : (List.range (j + 1)).map (row0 N i p.rows) = (List.range j).map (row0 N i p.rows) ++ [row0 N i p.rows j] := by rw [List.range_succ, List.map_append]; rfl
    have bj1 : (resize p.bounds i).take (j + 1) = (resize p.bounds i).take j ++ [qat p.bounds j] := by
      rw [take_snoc (x := qat p.bounds j)]
      rw [← hlast j hji]; exact qat_get (by rw [resize_length]; exact hji)
    have ij1 : (List.range (j + 1)).map (N + ·) = (List.range j).map (N + ·) ++ [N + j] := by rw [List.range_succ, List.map_append]; rfl
    have lr : ((List.range j).map (row0 N i p.rows)).length < 1099511627776 := by simp; omega
    have lb : ((resize p.bounds i).take j).length < 1099511627776 := by simp [resize]; omega
    have li : ((List.range j).map (N + ·)).length < 1099511627776 := by simp; omega
    have eadd : binV (.int .i64) .add (.int .i64 (N : Nat)) (.int .i64 (j : Nat)) = some (.int .i64 ((N + j : Nat) : Int)) := bin_add (by omega)
    have ld : ∀ {o : Nat} {t : TypeId} {zero : List Value} {bytes : Nat} {u : Value} {n : Nat} {w1 : World} {K : Value → World → Prop}, TI CC.P t 1 false zero bytes → [vm, vr, vb, Value.int .i64 ((N + i + 1 : Nat) : Int), .slice (some ⟨gs, 0, none⟩) (N + i + 1) (N + i + 1), .int .i64 0][o]? = some u →
        PhB (fun k => k = g27 ∨ vm.ownBlock = some k ∨ vr.ownBlock = some k ∨ vb.ownBlock = some k) g27 215 3 (0, w22) (n, w1) → n ≤ 3 → K u w1 → LoadP CC t (.pointer (some ⟨g27, o, none⟩)) w1 K := fun hti ho ht hn hk => LoadP.fld (ht.blk hn hB) hti ho hk
    have olds : ∀ {n : Nat} {w1 : World}, PhB (fun k => k = g27 ∨ vm.ownBlock = some k ∨ vr.ownBlock = some k ∨ vb.ownBlock = some k) g27 215 3 (0, w22) (n, w1) → Md (fun k => k = g27 ∨ w21.heap.size ≤ k) w22 w1 := fun ht => ht.md.mono fun k hk => (hS27 k hk).1
    have hRt : Rt L w21.heap.size w22 vm vr vb ((List.range j).map (row0 N i p.rows)) ((resize p.bounds i).take j) ((List.range j).map (N + ·)) := ⟨hM, hV, hI⟩
    have hnm : vm.ownBlock ≠ some g27 := hM.ne hB (by decide)
    have hnr : vr.ownBlock ≠ some g27 := hV.ne hB (by decide)
    have hnb : vb.ownBlock ≠ some g27 := Vc.Own.ne hI hB (by decide)
    have hat_n : ∀ {n : Nat} {w1 : World}, PhB (fun k => k = g27 ∨ vm.ownBlock = some k ∨ vr.ownBlock = some k ∨ vb.ownBlock = some k) g27 215 3 (0, w22) (n, w1) → LpAt c L (fun k => k < w.heap.size) w1 g1 v p := fun ht => hat22.md (olds ht) (fun k hk => by omega) (by omega)
    refine ⟨PhB (fun k => k = g27 ∨ vm.ownBlock = some k ∨ vr.ownBlock = some k ∨ vb.ownBlock = some k) g27 215 3, fun l w' => match l with
        | [] => Rt L w21.heap.size w' vm vr vb ((List.range j).map (row0 N i p.rows)) ((resize p.bounds i).take j) ((List.range j).map (N + ·))
        | [a] => Rt L w21.heap.size w' a vr vb ((List.range (j + 1)).map (row0 N i p.rows)) ((resize p.bounds i).take j) ((List.range j).map (N + ·))
        | [a, b] => Rt L w21.heap.size w' a b vb ((List.range (j + 1)).map (row0 N i p.rows)) ((resize p.bounds i).take (j + 1)) ((List.range j).map (N + ·))
        | [a, b, d] => Rt L w21.heap.size w' a b d ((List.range (j + 1)).map (row0 N i p.rows)) ((resize p.bounds i).take (j + 1)) ((List.range (j + 1)).map (N + ·))
        | [a, b, d, _] => Rt L w21.heap.size w' a b d ((List.range (j + 1)).map (row0 N i p.rows)) ((resize p.bounds i).take (j + 1)) ((List.range (j + 1)).map (N + ·)) ∧ Blk w' g27 215 [a, vr, vb, .int .i64 ((N + i + 1 : Nat) : Int), .slice (some ⟨gs, 0, none⟩) (N + i + 1) (N + i + 1), .int .i64 0]
        | [a, b, d, _, _] => Rt L w21.heap.size w' a b d ((List.range (j + 1)).map (row0 N i p.rows)) ((resize p.bounds i).take (j + 1)) ((List.range (j + 1)).map (N + ·)) ∧ Blk w' g27 215 [a, b, vb, .int .i64 ((N + i + 1 : Nat) : Int), .slice (some ⟨gs, 0, none⟩) (N + i + 1) (N + i + 1), .int .i64 0]
        | a :: b :: d :: _ => Rt L w21.heap.size w' a b d ((List.range (j + 1)).map (row0 N i p.rows)) ((resize p.bounds i).take (j + 1)) ((List.range (j + 1)).map (N + ·)) ∧ Blk w' g27 215 [a, b, d, .int .i64 ((N + i + 1 : Nat) : Int), .slice (some ⟨gs, 0, none⟩) (N + i + 1) (N + i + 1), .int .i64 0],
      PhB.grow _ _ _ _, PhB.trans _ _ _ _, fun w' hg => hRt.grow hg,
      fun v _ => v = vm, fun v s' => s'.1 = 0 → Vec true L (fun k => k < w21.heap.size) s'.2 v (Spx.rowAt (allM N i p.rows) j), fun v _ => v = .int .i64 ((N + i + 1 : Nat) : Int), fun v s' => s'.1 = 0 → VecO true L w22.heap.size s'.2 v (row0 N i p.rows j),
      fun v s' => s'.1 = 0 → ∃ u, One w22.heap.size 23 s'.2 v [u] ∧ VecO true L w22.heap.size s'.2 u (row0 N i p.rows j), fun _ _ => True, fun v _ => v = vr, fun z _ => z = lpB v, fun v s' => QR c L s'.2 v (qat p.bounds j), fun v s' => QR true L s'.2 v (qat p.bounds j),
      fun v s' => ∃ u : Value, One w22.heap.size 30 s'.2 v u.cells.toList ∧ QR true L s'.2 u (qat p.bounds j), fun _ _ => True, fun v _ => v = vb, fun v s' => One w22.heap.size 3 s'.2 v [.int .i64 ((N + j : Nat) : Int)], fun _ _ => True, fun _ _ => True, fun _ _ => True, fun _ _ => True,
      ?_, ?_, ?_, ?_, ?_, ?_, ?_, ?_, ?_, ?_, ?_, ?_, ?_, ?_, ?_, ?_, ?_, ?_, ?_, ?_, ?_, ?_, ?_, ?_, ?_, ?_, ?_, ?_, ?_, ?_, ?_, ?_, ?_, ?_, ?_, ?_, ?_, ?_, ?_, ?_, ?_, ?_, ?_⟩
    any_goals ((try dsimp only [Fw, Fl]); intros; first | exact ⟨_, rfl⟩ | fail)
    any_goals ((try dsimp only [Fw, Fl]); intros; rename_i n w8 hn ht; first | exact ld (o := 0) ti22 rfl ht (by omega) ⟨Grow.refl _, fun _ _ _ => rfl⟩ | exact ld (o := 1) ti23 rfl ht (by omega) ⟨Grow.refl _, fun _ _ _ => rfl⟩ | exact ld (o := 2) ti67 rfl ht (by omega) ⟨Grow.refl _, fun _ _ _ => rfl⟩ | exact ld (o := 3) ti3 rfl ht (by omega) ⟨Grow.refl _, fun _ _ _ => rfl⟩ | fail)
    · intro _ n w1 hn ht; exact ⟨_, hada'⟩
    · intro _ n w1 hn ht
      obtain ⟨rfl, hg⟩ := ht.z hn
      rw [hada']
      exact (hall22.grow hg).load (C := CC) rfl hada (rowAt_get hjl) fun u hu => ⟨Grow.refl _, fun m w9 ht hm => hu.grow (ht.z (Nat.le_of_eq hm)).2⟩
    · rintro _ v66 _ n w1 hn ht h66 rfl
      obtain ⟨rfl, hg⟩ := ht.z hn
      refine fgT (c31 (m := ((N + i + 1 : Nat) : Int)) (h66 rfl) h1 (by omega)) fun r w5 m w6 hr ht hm => ?_
      have e : min ((N + i + 1 : Nat) : Int).toNat 65536 = N + i + 1 := Nat.min_eq_left (Nat.le_trans hszi (by decide))
      rw [e, hrow] at hr
      exact (hr.down hg.size).grow (ht.z (Nat.le_of_eq hm)).2
    · rintro _ _ _ v71 n w1 hn ht _ _ h71
      obtain ⟨rfl, hg⟩ := ht.z hn
      exact litV2 ((h71 rfl).vec (by rw [row0_length]; omega)) fun s w5 hg5 ho => ⟨hg5, fun m w6 ht hm => ⟨v71, (ho.down hg.size).grow (ht.z (Nat.le_of_eq hm)).2, ((h71 rfl).grow hg5).grow (ht.z (Nat.le_of_eq hm)).2⟩⟩
    · rintro _ _ _ _ _ n w1 hn ht rfl hL rfl _ _ _ h72
      obtain ⟨_, hg⟩ := ht.z (Nat.le_refl _)
      obtain ⟨u, ho, hu⟩ := h72 rfl
      have z := hg.size
      refine appV2 (C := CC) rfl hL.1 ho ((hu.vec (by rw [row0_length]; omega)).mono fun k _ hk e => by have := (hVb k e).2; omega) (by omega) lr fun o' w' ho' hm hf => ?_
      refine ⟨PhB.next (hm.mono fun k hk => .inr (.inl hk)) fun _ cs hb => hb.md hm hnm, fun _ _ _ => trivial, fun w'' hg => ?_⟩
      rw [← rj1] at ho'
      exact (Rt.mat hL hm ho').grow hg
    · intro _ _ _ _ _ _ _ n w1 hn ht
      exact (hat_n ht).f3 (C := CC) rfl ⟨Grow.refl _, fun _ _ _ => rfl⟩
    · rintro _ _ _ _ _ _ _ _ n w1 hn ht rfl; exact ⟨_, hadb'⟩
    · rintro _ _ _ _ _ _ _ _ n w1 hn ht rfl
      rw [hadb']
      exact (hat_n ht).1.bnds.load hadb (qat_get hjb) fun r hr => ⟨Grow.refl _, fun m w9 ht => hr.md ht.md⟩
    · intro _ _ _ _ _ _ _ _ _ n w1 hn ht _ _ _ _ _ _ _ h83
      exact fgT (q87 h83 h1 (by omega)) fun r w5 m w6 hr ht => hr.md ht.md
    · intro _ _ _ _ _ _ _ _ _ v84 n w1 hn ht _ _ _ _ _ _ _ _ h84
      exact litQ h84 fun s w5 hg5 ho => ⟨hg5, fun m w6 ht' => ⟨v84, (ho.down (ht.md.size)).md ht'.md fun k hk => (hS27 k hk).2, (h84.grow hg5).md ht'.md⟩⟩
    · rintro _ _ _ _ _ _ _ _ _ _ _ n w1 hn ht rfl hL _ _ _ _ _ _ _ rfl _ _ _ ⟨u, ho, hu⟩
      have z := ht.md.size
      refine appQ1 hL.2.1 ho hu (by omega) lb fun o' w' ho' hm hf => ?_
      refine ⟨PhB.next (hm.mono fun k hk => .inr (.inr (.inl hk))) fun _ cs hb => hb.md hm hnr, fun _ _ _ => trivial, fun w'' hg => ?_⟩
      rw [← bj1] at ho'
      exact (Rt.right hL hm ho' hf).grow hg
    · intro _ _ _ _ _ _ _ _ _ _ _ _ _ n w1 hn ht
      rw [eadd]
      exact litI fun s w5 hg5 ho => ⟨hg5, fun m w6 ht' => (ho.down (ht.md.size)).md ht'.md fun k hk => (hS27 k hk).2⟩
    · rintro _ _ _ _ _ _ _ _ _ _ _ _ _ _ n w1 hn ht rfl hL _ _ _ _ _ _ _ _ _ _ _ _ _ _ _ rfl ho
      have z := ht.md.size
      refine appI1 hL.2.2 ho (by omega) li fun o' w' ho' hm hf => ?_
      refine ⟨PhB.next (hm.mono fun k hk => .inr (.inr (.inr hk))) fun _ cs hb => hb.md hm hnb, fun _ _ _ => trivial, fun w'' hg => ?_⟩
      rw [← ij1] at ho'
      exact (Rt.base' hL hm ho').grow hg
    · intro _ _ _ _ _ v73 _ _ _ _ _ v86 _ _ v96 n w1 hn ht e hL
      subst e
      have hB1 := ht.blk (Nat.le_refl _) hB
      intros
      refine StoreP.one (C := CC) (o := 0) ti22 hB1 hL.1.one (by simp) fun w' hu hb => ?_
      have hm := Md.of hu hB1 (by decide)
      exact ⟨PhB.next (hm.mono fun k hk => .inl hk) (fun h => by omega), fun _ _ _ => trivial, fun w'' hg => ⟨(Rt.head hL hB1 hm).grow hg, hb.grow hg⟩⟩
    · intro _ _ _ _ _ v73 _ _ _ _ _ v86 _ _ v96 _ n w1 hn ht e hL
      subst e
      obtain ⟨hL, hB1⟩ := hL
      intros
      refine StoreP.one (C := CC) (o := 1) ti23 hB1 hL.2.1.one (by simp) fun w' hu hb => ?_
      have hm := Md.of hu hB1 (by decide)
      exact ⟨PhB.next (hm.mono fun k hk => .inl hk) (fun h => by omega), fun _ _ _ => trivial, fun w'' hg => ⟨(Rt.head hL hB1 hm).grow hg, hb.grow hg⟩⟩
    · intro _ _ _ _ _ v73 _ _ _ _ _ v86 _ _ v96 _ _ n w1 hn ht e hL
      subst e
      obtain ⟨hL, hB1⟩ := hL
      obtain ⟨a, cap, ea⟩ := Vc.Own.len hL.2.2
      intros
      refine StoreP.one (C := CC) (o := 2) ti67 hB1 (by rw [ea]; rfl) (by simp) fun w' hu hb => ?_
      have hm := Md.of hu hB1 (by decide)
      exact ⟨PhB.next (hm.mono fun k hk => .inl hk) (fun h => by omega), fun _ _ _ => trivial, fun w'' hg => ⟨(Rt.head hL hB1 hm).grow hg, hb.grow hg⟩⟩
    rintro _ _ _ _ _ v73 _ _ _ _ _ v86 _ _ v96 _ _ _ _ w83 ht _ _ _ _ _ _ _ _ _ _ _ _ _ _ _ _ _ _ _ _ _ ⟨hL, hB83⟩
    have hm83 := hm22.trans (olds ht)
    have hat83 := hat_n ht
    have z83 := hm83.size
    obtain ⟨lst, hlst⟩ : ∃ l, l = leastIdx (resize p.bounds i) 0 0 ((resize p.bounds i).take j) := ⟨_, rfl⟩
    rw [← hlst]
    have hll : lst < i := by rw [hlst]; exact leastIdx_lt _ _ _ _ _ (by omega) (by simp [resize]; omega)
    have hlb : lst < p.bounds.length := by omega
    obtain ⟨adl, hadl⟩ := hat83.1.bnds.idx (k := .i64) hlb
    have hadl' : indexAddrV (tyOf tyTab 23) (lpB v) (.int .i64 (lst : Nat)) = _ := hadl
    refine ⟨fun z _ => z = lpB v, fun z w' => QR c L w' z (qat p.bounds j), fun z _ => z = lpB v, fun z w' => QR c L w' z (qat p.bounds lst), fun z _ => z = .int .i64 (vsgn (qat p.bounds j - qat p.bounds lst)), ?_, ?_, ?_, ?_, ?_, ?_, ?_, ?_, ?_, ?_, ?_⟩
    · exact fun _ _ => ⟨_, rfl⟩
    · intro w1 hg; exact (hat83.grow hg).f3 (C := CC) rfl ⟨Grow.refl _, fun _ _ => rfl⟩
    · rintro _ w1 hg rfl; exact ⟨_, hadb'⟩
    · rintro _ w1 hg rfl
      rw [hadb']
      exact (hat83.grow hg).1.bnds.load hadb (qat_get hjb) fun r hr => ⟨Grow.refl _, fun w9 ht => hr.grow ht⟩
    · exact fun _ _ _ _ => ⟨_, rfl⟩
    · intro _ _ w1 hg; exact (hat83.grow hg).f3 (C := CC) rfl ⟨Grow.refl _, fun _ _ => rfl⟩
    · rintro _ _ _ w1 hg rfl; exact ⟨_, hadl'⟩
    · rintro _ _ _ w1 hg rfl
      rw [hadl']
      exact (hat83.grow hg).1.bnds.load hadl (qat_get hlb) fun r hr => ⟨Grow.refl _, fun w9 ht => hr.grow ht⟩
    · intro _ _ _ _ w1 hg _ h110 _ h115
      exact fc (c33 h110 h115 h1 (by omega) h1 (by omega)) fun r w5 w6 hr _ => hr
    · rintro _ _ _ _ _ w1 hg _ _ _ _ rfl; exact ⟨_, rfl⟩
    rintro _ _ _ _ _ _ w99 hg99 _ _ _ _ rfl
    have hm99 := hm83.trans (Md.grow hg99)
    have hsn : leastIdx (resize p.bounds i) 0 0 ((resize p.bounds i).take (j + 1)) = if qat p.bounds j < qat p.bounds lst then j else lst := by
      rw [bj1, leastIdx_snoc, ← hlst, hlast lst hll]
      have : 0 + ((resize p.bounds i).take j).length = j := by rw [List.length_take, resize_length]; omega
      rw [this]
    have hL99 := hL.grow hg99
    refine cD (fun hlt2 => ?_) (fun hge2 => ?_)
    · have : qat p.bounds j < qat p.bounds lst := vsgn_sub_neg.1 hlt2
      rw [if_pos this] at hsn
      exact pi rfl (by omega) ⟨⟨j + 1, v73, v86, v96, by simp, by omega, by rw [hsn], hm99, hB83.grow hg99, hL99.1, hL99.2.1, hL99.2.2⟩, by simp only [vint_int]; omega⟩
    · have : ¬ qat p.bounds j < qat p.bounds lst := fun h => hge2 (vsgn_sub_neg.2 h)
      rw [if_neg this] at hsn
      exact pi rfl (by omega) ⟨⟨j + 1, v73, v86, v96, by simp, by omega, by rw [hsn], hm99, hB83.grow hg99, hL99.1, hL99.2.1, hL99.2.2⟩, by simp only [vint_int]; omega⟩
  · have eji : j = i := by omega
    subst eji
    have hrl : (resize p.bounds j).length = j := resize_length
    rw [List.take_of_length_le (Nat.le_of_eq hrl)] at hV
    rw [List.take_of_length_le (Nat.le_of_eq hrl)]
    obtain ⟨lst, hlst⟩ : ∃ l, l = leastIdx (resize p.bounds j) 0 0 (resize p.bounds j) := ⟨_, rfl⟩
    rw [← hlst]
    have hin : init p = { m := (List.range j).map (row0 N j p.rows), r := resize p.bounds j, b := (List.range j).map (N + ·), s := List.replicate (N + j + 1) false, n := 0 } := by rw [hR, hN]; rfl
    have hc' : (if j > 0 ∧ qat (resize p.bounds j) lst < 0 then pivotC L lst (N + j) (init p) else some (init p)) = some s := by rw [hlst, hR, hN]; exact hc
    have hW : Wk L w.heap.size ⟨g27, vm, vr, vb, .slice (some ⟨gs, 0, none⟩) (N + j + 1) (N + j + 1), N + j + 1⟩ w22 (init p) := by
      rw [hin]
      refine ⟨hB, hM.down (by omega), hV.down (by omega), Vc.Own.base hI (by omega), hms22, by show w.heap.size ≤ g27; omega, ⟨fun r hr => ?_, by simp [resize], by simp, fun k hk => ?_, by simp, by simp; omega⟩⟩
      · obtain ⟨i, _, rfl⟩ := List.mem_map.1 hr; exact row0_length
      · obtain ⟨i, hi, rfl⟩ := List.mem_map.1 hk
        have := List.mem_range.1 hi
        show N + i < N + j + 1; omega
    have hgo : ∀ {w3 : World} {F : Wf}, (∀ k, WS F k → w.heap.size ≤ k) → Md (WS F) w22 w3 → Grow w w3 := fun h1 h2 => Md.new hg022 h2 h1
    have hWl : ∀ k, WS ⟨g27, vm, vr, vb, .slice (some ⟨gs, 0, none⟩) (N + j + 1) (N + j + 1), N + j + 1⟩ k → w.heap.size ≤ k := fun k hk => (hW.lt hk).1
    rcases Nat.eq_zero_or_pos j with e0 | e0
    · have b0 : binV (.int .i64) .gtr (.int .i64 (j : Nat)) (.int .i64 0) = some (.bool false) := by rw [e0]; rfl
      rw [if_neg (by omega)] at hc'
      cases hc'
      exact px b0 (cF rfl (px rfl (cF rfl (px a1 ⟨hg022, _, rfl, rfl, hW⟩))))
    · have b0 : binV (.int .i64) .gtr (.int .i64 (j : Nat)) (.int .i64 0) = some (.bool true) := by
        show some (Value.bool (decide (((j : Nat) : Int) > 0))) = _
        rw [decide_eq_true (by omega)]
      have hll : lst < j := by rw [hlst]; exact leastIdx_lt _ _ _ _ _ e0 (by omega)
      have hlb : lst < p.bounds.length := by omega
      obtain ⟨adl, hadl⟩ := hat22.1.bnds.idx (k := .i64) hlb
      refine px b0 (cT rfl (px fa3 (hat22.f3 (C := CC) rfl (px hadl (hat22.1.bnds.load hadl (qat_get hlb) fun r hr => (q42 hr h1).mono ?_)))))
      rintro _ w3 ⟨hg3, rfl⟩
      refine px rfl (px rfl (cD (fun hneg => ?_) (fun hnn => ?_)))
      · have hneg' : qat (resize p.bounds j) lst < 0 := by rw [hlast lst hll]; exact vsgn_neg.1 hneg
        rw [if_pos ⟨e0, hneg'⟩] at hc'
        unfold pivotC at hc'
        split at hc'
        · rename_i hok
          cases hc'
          have hml : (init p).m.length = j := by rw [hin]; simp
          have hne : Spx.mat (init p).m lst (N + j) ≠ 0 := by
            have : Spx.mat (init p).m lst (N + j) = -1 := by
              rw [hin]
              unfold Spx.mat Spx.rowAt
              simp only [List.getD_eq_getElem?_getD, List.getElem?_map, List.getElem?_range hll, Option.map_some, gd, Option.getD_some]
              unfold qat row0
              rw [List.getD_eq_getElem?_getD, List.getElem?_map, List.getElem?_range (by omega)]
              simp only [Option.map_some, gd, Option.getD_some]
              rw [if_neg (by omega), if_neg (by omega)]
            rw [this]; decide
          refine px a1 ((c201 (hW.grow hg3) (by rw [hml]; exact hll) (by show N + j < N + j + 1; omega) hne h1 h2 (by rw [hin]; show 0 + 1 < _; omega)).mono ?_)
          rintro _ w4 ⟨hm4, hw4⟩
          exact px a1 ⟨hgo hWl ((Md.grow hg3).trans hm4), _, rfl, rfl, hw4.refit hok⟩
        · cases hc'
      · have hnn' : ¬ qat (resize p.bounds j) lst < 0 := fun h => hnn (vsgn_neg.2 (by rw [hlast lst hll] at h; exact h))
        rw [if_neg (fun h => hnn' h.2)] at hc'
        cases hc'
        exact px a1 ⟨hg022.trans hg3, _, rfl, rfl, hW.grow hg3⟩
end
end Lx
end Go.Proofs.YtaajkcngcalgoaaGreat
namespace Go.Proofs.YtaajkcngcalgoaaGreat
namespace Lx
open Go Go.Vc Go.Spx
attribute [local irreducible] Tryz.prog
def GoalsO (base : Nat) (P : Nat → Prop) (L : Nat) (w : World) (v : Value) (gs : List Goal) : Prop :=
  ∃ fs : List Value, Vc.Own w base 210 1 v gs.length fs ∧ fs.length = gs.length ∧ ∀ (i : Nat) (g : Goal), gs[i]? = some g → ∃ fv, fs[i]? = some fv ∧ GoalV L P w fv g
section
variable {c c' d : Bool} {L M K base n : Nat} {w w' w'' : World} {v o u a b q fv : Value} {x y z : Rat} {xs ys row : List Rat} {m m' : List (List Rat)} {S P P' Q Q' : Nat → Prop} {cs vs : List Value} {s s' : St} {F : Wf} {g : Goal} {p : Lp} {gs : List Goal}
theorem GoalV.mono (h : GoalV L P w fv g) (hq : ∀ k, k < w.heap.size → P k → Q k) : GoalV L Q w fv g := by
  rcases h with ⟨f, g1, k, hf, h1, h2, h3, h4⟩ | ⟨g1, u, row, h1, h2, h3, h4, h5⟩ | ⟨g1, k, cs, h1, h2, h3, h4, h5⟩
  · exact .inl ⟨f, g1, k, hf, h1, h2, hq _ h2.lt h3, h4⟩
  · exact .inr (.inl ⟨g1, u, row, h1, h2, h3.mono hq, hq _ h2.lt h4, h5⟩)
  · exact .inr (.inr ⟨g1, k, cs, h1, h2, h3, hq _ h2.lt h4, h5⟩)
theorem Blk.md2 {g e e' : Nat} (h : Blk w g e cs) (hm : Md S w w') (hs : ∀ k, S k → ∃ c fr, w.heap[k]? = some (.cells c e' fr)) (he : e ≠ e') : Blk w' g e cs := by
  refine h.md hm fun hk => ?_
  obtain ⟨c, fr, h2⟩ := hs _ hk
  unfold Blk at h; rw [h] at h2; simp at h2; exact he h2.2.1
theorem GoalV.md2 (h : GoalV L P w fv g) (hm : Md S w w') (hs : ∀ k, S k → ∃ c fr, w.heap[k]? = some (.cells c 210 fr)) : GoalV L P w' fv g := by
  rcases h with ⟨f, g1, k, hf, h1, h2, h3⟩ | ⟨g1, u, row, h1, h2, h3, h4⟩ | ⟨g1, k, cs, h1, h2, h3⟩
  · exact .inl ⟨f, g1, k, hf, h1, Blk.md2 h2 hm hs (by decide), h3⟩
  · refine .inr (.inl ⟨g1, u, row, h1, Blk.md2 h2 hm hs (by decide), h3.md2 hm fun k _ hk c fr he => ?_, h4⟩)
    obtain ⟨c', fr', h5⟩ := hs k hk
    rw [he] at h5; cases h5
  · exact .inr (.inr ⟨g1, k, cs, h1, Blk.md2 h2 hm hs (by decide), h3⟩)
theorem GoalsO.grow (h : GoalsO base P L w v gs) (hg : Grow w w') : GoalsO base P L w' v gs := by
  obtain ⟨fs, h1, h2, h3⟩ := h
  exact ⟨fs, Vc.Own.grow h1 hg, h2, fun i g hi => by obtain ⟨fv, h4, h5⟩ := h3 i g hi; exact ⟨fv, h4, h5.grow hg⟩⟩
theorem GoalsO.md (h : GoalsO base P L w v gs) (hm : Md S w w') (hv : ∀ k, v.ownBlock = some k → ¬ S k) (hd : ∀ k, P k → ¬ S k) : GoalsO base P L w' v gs := by
  obtain ⟨fs, h1, h2, h3⟩ := h
  exact ⟨fs, Vc.Own.md h1 hm hv, h2, fun i g hi => by obtain ⟨fv, h4, h5⟩ := h3 i g hi; exact ⟨fv, h4, h5.md hm hd⟩⟩
theorem GoalsO.nil : GoalsO base P L w (.slice none 0 0) [] := ⟨[], Vc.Own.nil _ _ _ _, rfl, fun i g h => by simp at h⟩
theorem GoalsO.block (h : GoalsO base P L w v gs) : ∀ k, v.ownBlock = some k → base ≤ k ∧ k < w.heap.size := by
  obtain ⟨fs, h1, _⟩ := h; exact Vc.Own.block h1
theorem GoalsO.len (h : GoalsO base P L w v gs) : lenV (.slice 1) v = some (.int .i64 gs.length) := by
  obtain ⟨fs, h1, _⟩ := h
  obtain ⟨a, cap, rfl⟩ := Vc.Own.len h1; rfl
theorem GoalsO.idx (h : GoalsO base P L w v gs) {i : Nat} (hi : i < gs.length) : ∃ x, indexAddrV (.slice 1) v (.int .i64 i) = some x := by
  obtain ⟨fs, h1, _⟩ := h
  obtain ⟨g, _, e⟩ := Vc_idx h1 (k := .i64) hi
  exact ⟨_, e⟩
theorem GoalsO.load (h : GoalsO base P L w v gs) {i : Nat} {x : Value} (hx : indexAddrV (.slice 1) v (.int .i64 i) = some x) (hi : i < gs.length) {k : Value → World → Prop} (hk : ∀ fv, GoalV L P w fv gs[i] → k (.agg #[fv]) w) : LoadP CC 210 x w k := by
  obtain ⟨fs, h1, h2, h3⟩ := h
  obtain ⟨fv, hf, hg⟩ := h3 i _ (List.getElem?_eq_getElem hi)
  rcases h1.2 with ⟨rfl, h0⟩ | ⟨g', cap, cur, rfl, hb, hgg, hn, hm, hs, ht⟩
  · omega
  · have e : indexAddrV (.slice 1) (.slice (some ⟨g', 0, none⟩) gs.length cap) (.int .i64 i) = (if i < gs.length then (plus ⟨g', 0, none⟩ (i * 1)).map fun a => Value.pointer (some a) else none) := rfl
    rw [e, if_pos hi] at hx
    cases hx
    refine LoadP.many (C := CC) (cs := [fv]) ti210 hgg rfl (fun j u hu => ?_) (hk fv hg)
    cases j with
    | zero =>
      simp at hu
      subst hu
      rw [← ht, List.getElem?_take] at hf
      split at hf
      · simpa using hf
      · cases hf
    | succ j => simp at hu
theorem appG {K : Value → World → Prop} (ho : GoalsO base P L w o gs) (h1 : One base n w a [fv]) (hn : n = 210) (hf : GoalV L P w fv g) (hb : base ≤ w.heap.size) (hl : gs.length < 1099511627776)
    (hk : ∀ o' w', GoalsO base P L w' o' (gs ++ [g]) → Md (fun g => o.ownBlock = some g) w w' → (∀ g, o'.ownBlock = some g → o.ownBlock = some g ∨ w.heap.size ≤ g) → K o' w') :
    AppendP CC #[207, 207] 207 [o, a] w K := by
  subst hn
  obtain ⟨fs, h2, h3, h4⟩ := ho
  refine AppendP.one (C := CC) (sz := 1) sl207 ti210 rfl (by decide) h2 h1 rfl (by simpa using hf.one) (by omega) (by simp only [maxLen]; omega) hb (by decide) fun o' w' ho hm hf' => ?_
  have hs : ∀ k, o.ownBlock = some k → ∃ c fr, w.heap[k]? = some (.cells c 210 fr) := by
    intro k hk
    rcases h2.2 with ⟨rfl, _⟩ | ⟨g', cap, cur, rfl, hb, hgg, _⟩
    · simp [Value.ownBlock] at hk
    · simp [Value.ownBlock] at hk; subst hk; exact ⟨_, _, hgg⟩
  refine hk o' w' ⟨fs ++ [fv], by simpa using ho, by simp [h3], fun i g' hi => ?_⟩ hm hf'
  by_cases e : i < gs.length
  · rw [List.getElem?_append_left e] at hi
    obtain ⟨fv', h5, h6⟩ := h4 i g' hi
    exact ⟨fv', by rw [List.getElem?_append_left (by omega)]; exact h5, h6.md2 hm hs⟩
  · rw [List.getElem?_append_right (by omega)] at hi
    have : i - gs.length = 0 := by
      rcases Nat.eq_zero_or_pos (i - gs.length) with h | h
      · exact h
      · rw [List.getElem?_eq_none (by simp; omega)] at hi; cases hi
    rw [this] at hi
    simp at hi; subst hi
    exact ⟨fv, by rw [List.getElem?_append_right (by omega), h3, this]; rfl, hf.md2 hm hs⟩
theorem c166 (h : LpR c L P w v p) (hv0 : 0 ≤ p.vars) (hn : p.n ≤ 1024) (h1 : 2 ≤ L) (h2 : L ≤ 268435456) (ho : p.objs.length ≤ 1048576) :
    CallP CC 166 [v] w fun r w' => Grow w w' ∧ GoalsO w.heap.size (fun k => w.heap.size ≤ k) L w' r (goals p) := by
  have hvn : p.vars = (p.n : Int) := by unfold Lp.n; omega
  apply call166
  refine LpAt.box h.old fun g1 w1 hg1 hl1 hl1' hat => ?_
  have z1 := hg1.size
  refine px rfl (hat.f1 (C := CC) rfl (px hat.1.objs.len ?_))
  refine ⟨fun v2 v10 w' => ∃ i : Nat, v10 = .int .i64 (i : Nat) ∧ i ≤ p.objs.length ∧ Md (fun k => w1.heap.size ≤ k) w1 w' ∧ GoalsO w.heap.size (fun k => w.heap.size ≤ k) L w' v2 ((p.objs.map (fun g => goalRow (resize g p.n))).take i) ∧ ∀ k, v2.ownBlock = some k → w1.heap.size ≤ k,
    fun _ v10 _ => p.objs.length - (vint v10).toNat, ⟨0, rfl, by omega, Md.refl _, GoalsO.nil, by simp [Value.ownBlock]⟩, ?_⟩
  rintro v2 _ - w3 ⟨i, rfl, hi, hm3, hG, hG'⟩
  have z3 := hm3.size
  have hat3 := hat.md hm3 (fun k hk => by omega) (by omega)
  refine px rfl (cD (fun hlt => ?_) (fun hge => ?_))
  · have hli : i < p.objs.length := by omega
    obtain ⟨ad, had⟩ := hat3.1.objs.idx (k := .i64) hli
    refine px had (hat3.1.objs.load (C := CC) rfl had (rowAt_get hli) fun u hu => px rfl (hat3.f0 (C := CC) rfl ((c31 (m := p.vars) hu h1 h2).mono ?_)))
    rintro r w6 ⟨hg6, hr⟩
    have z6 := hg6.size
    have e : min p.vars.toNat 65536 = p.n := Nat.min_eq_left (Nat.le_trans hn (by decide))
    rw [e] at hr
    refine AllocP.mk (C := CC) ti23 fun g7 w7 hg7 hl7 hl7' hb7 => ?_
    have z7 := hg7.size
    refine StoreP.var ti23 hb7 hr.one fun w8 hu8 hb8 => ?_
    have hm8 := Md.of hu8 hb7 (by decide)
    have z8 := hm8.size
    have hr8 : VecO true L w3.heap.size w8 r (resize (Spx.rowAt p.objs i) p.n) := (hr.grow hg7).md hm8 fun k hk e => by
      have := (hr.block k hk).2
      omega
    have hgr38 : Grow w3 w8 := Md.new (hg6.trans hg7) hm8 fun k hk => by omega
    have hgv : GoalV L (fun k => w.heap.size ≤ k) w8 (.func (.func 205) #[] #[.pointer (some ⟨g7, 0, none⟩)]) (goalRow (resize (Spx.rowAt p.objs i) p.n)) :=
      .inr (.inl ⟨g7, r, _, rfl, hb8, (hr8.vec (by simp [resize]; omega)).mono fun k _ hk => by omega, by omega, rfl⟩)
    refine px rfl (px rfl (LitP.one (C := CC) (sz := 1) (v := .agg #[.func (.func 205) #[] #[.pointer (some ⟨g7, 0, none⟩)]]) sl207 ti210 rfl (by decide) (by decide) rfl fun s9 w9 hg9 ho9 => ?_))
    have ho9 : One w.heap.size 210 w9 s9 [.func (.func 205) #[] #[.pointer (some ⟨g7, 0, none⟩)]] := One.down ho9 (by omega)
    have z9 := hg9.size
    refine appG ((hG.grow hgr38).grow hg9) ho9 rfl (hgv.grow hg9) (by omega) (by simp; omega) fun o' w10 hG10 hm10 hf10 => ?_
    refine pi rfl (by omega) ⟨⟨i + 1, by simp, by omega, ((hm3.trans (Md.grow hgr38)).trans (Md.grow hg9)).trans (hm10.mono fun k hk => hG' k hk), ?_, fun k hk => ?_⟩, by simp only [vint_int]; omega⟩
    · have e : (p.objs.map (fun g => goalRow (resize g p.n))).take (i + 1) = (p.objs.map (fun g => goalRow (resize g p.n))).take i ++ [goalRow (resize (Spx.rowAt p.objs i) p.n)] := take_snoc (by rw [List.getElem?_map, rowAt_get hli]; rfl)
      rw [e]; exact hG10
    · rcases hf10 k hk with h | h
      · exact hG' k h
      · omega
  · have : i = p.objs.length := by omega
    subst this
    rw [List.take_of_length_le (by simp)] at hG
    refine px rfl (hat3.f0 (C := CC) rfl ?_)
    rw [hvn]
    refine ⟨fun v2 v26 w' => ∃ i : Nat, v26 = .int .i64 (i : Nat) ∧ i ≤ p.n ∧ Md (fun k => w1.heap.size ≤ k) w1 w' ∧ GoalsO w.heap.size (fun k => w.heap.size ≤ k) L w' v2 (p.objs.map (fun g => goalRow (resize g p.n)) ++ ((List.range p.n).map goalUnit).take i) ∧ ∀ k, v2.ownBlock = some k → w1.heap.size ≤ k,
      fun _ v26 _ => p.n - (vint v26).toNat, ⟨0, rfl, by omega, hm3, by simpa using hG, hG'⟩, ?_⟩
    rintro v2' _ - w12 ⟨i, rfl, hi, hm12, hG, hG'⟩
    have z12 := hm12.size
    refine px rfl (cD (fun hlt => ?_) (fun hge => ?_))
    · have hli : i < p.n := by omega
      refine AllocP.mk (C := CC) ti3 fun g7 w7 hg7 hl7 hl7' hb7 => ?_
      have z7 := hg7.size
      refine StoreP.var ti3 hb7 rfl fun w8 hu8 hb8 => ?_
      have hm8 := Md.of hu8 hb7 (by decide)
      have z8 := hm8.size
      have hgr38 : Grow w12 w8 := Md.new hg7 hm8 fun k hk => by omega
      have hgv : GoalV L (fun k => w.heap.size ≤ k) w8 (.func (.func 206) #[] #[.pointer (some ⟨g7, 0, none⟩)]) (goalUnit i) :=
        .inl ⟨206, g7, i, .inr rfl, rfl, hb8, by omega, rfl⟩
      refine px rfl (px rfl (LitP.one (C := CC) (sz := 1) (v := .agg #[.func (.func 206) #[] #[.pointer (some ⟨g7, 0, none⟩)]]) sl207 ti210 rfl (by decide) (by decide) rfl fun s9 w9 hg9 ho9 => ?_))
      have ho9 : One w.heap.size 210 w9 s9 [.func (.func 206) #[] #[.pointer (some ⟨g7, 0, none⟩)]] := One.down ho9 (by omega)
      have z9 := hg9.size
      refine appG ((hG.grow hgr38).grow hg9) ho9 rfl (hgv.grow hg9) (by omega) (by simp; omega) fun o' w10 hG10 hm10 hf10 => ?_
      refine pi rfl (by omega) ⟨⟨i + 1, by simp, by omega, ((hm12.trans (Md.grow hgr38)).trans (Md.grow hg9)).trans (hm10.mono fun k hk => hG' k hk), ?_, fun k hk => ?_⟩, by simp only [vint_int]; omega⟩
      · have e : ((List.range p.n).map goalUnit).take (i + 1) = ((List.range p.n).map goalUnit).take i ++ [goalUnit i] := take_snoc (by rw [List.getElem?_map, List.getElem?_range hli]; rfl)
        rw [e, ← List.append_assoc]; exact hG10
      · rcases hf10 k hk with h | h
        · exact hG' k h
        · omega
    · have : i = p.n := by omega
      subst this
      rw [List.take_of_length_le (by simp)] at hG
      exact ⟨Md.new hg1 hm12 fun k hk => by omega, hG⟩
end
end Lx
end Go.Proofs.YtaajkcngcalgoaaGreat
namespace Go.Proofs.YtaajkcngcalgoaaGreat
open Go Go.Vc Go.Spx
attribute [local irreducible] Tryz.prog
def RO (L base : Nat) (w : World) (vs : List Value) (rows : List (List Rat)) : Prop :=
  vs.length = rows.length ∧ (∀ (i : Nat) row, rows[i]? = some row → ∃ u, vs[i]? = some u ∧ VecO true L base w u row) ∧ ∀ (i j : Nat) (u u' : Value), i ≠ j → vs[i]? = some u → vs[j]? = some u' → ∀ k, u.ownBlock = some k → u'.ownBlock ≠ some k
section
variable {c c' d : Bool} {L M K base n : Nat} {w w' w'' : World} {v o u a b q : Value} {x y z : Rat} {xs ys row : List Rat} {m m' rows : List (List Rat)} {S P P' Q Q' : Nat → Prop} {cs vs : List Value} {p : Lp}
theorem RO.made (k : Nat) : RO L base w (List.replicate k (.slice none 0 0)) (List.replicate k []) := by
  refine ⟨by simp, fun i row h => ?_, fun i j u u' _ hi _ k hk => ?_⟩
  · rw [List.getElem?_replicate] at h
    split at h
    · cases h
      rename_i hi
      exact ⟨.slice none 0 0, by rw [List.getElem?_replicate, if_pos hi], VecO.nil⟩
    · cases h
  · rw [List.getElem?_replicate] at hi
    split at hi
    · cases hi; simp [Value.ownBlock] at hk
    · cases hi
theorem RO.get (h : RO L base w vs rows) {i : Nat} (hi : i < rows.length) : ∃ u, vs[i]? = some u ∧ VecO true L base w u (Spx.rowAt rows i) := h.2.1 i _ (rowAt_get hi)
theorem RO.all (h : RO L base w vs rows) {i : Nat} {u : Value} (hi : vs[i]? = some u) : ∃ row, rows[i]? = some row ∧ VecO true L base w u row := by
  have hl : i < vs.length := by
    rcases Nat.lt_or_ge i vs.length with h | h
    · exact h
    · rw [List.getElem?_eq_none h] at hi; cases hi
  have hr : i < rows.length := by rw [← h.1]; exact hl
  obtain ⟨u', h1, h2⟩ := h.2.1 i _ (List.getElem?_eq_getElem hr)
  rw [hi] at h1; cases h1
  exact ⟨_, List.getElem?_eq_getElem hr, h2⟩
theorem RO.grow (h : RO L base w vs rows) (hg : Grow w w') : RO L base w' vs rows :=
  ⟨h.1, fun i row hr => by obtain ⟨u, h1, h2⟩ := h.2.1 i row hr; exact ⟨u, h1, h2.grow hg⟩, h.2.2⟩
theorem RO.md (h : RO L base w vs rows) (hm : Md S w w') (hd : ∀ k, base ≤ k → ¬ S k) : RO L base w' vs rows :=
  ⟨h.1, fun i row hr => by obtain ⟨u, h1, h2⟩ := h.2.1 i row hr; exact ⟨u, h1, h2.md hm fun k hk => hd k (h2.block k hk).1⟩, h.2.2⟩
theorem RO.app {i : Nat} (h : RO L base w vs rows) (hu : vs[i]? = some u) (hm : Md (fun g => u.ownBlock = some g) w w') (ho : VecO true L base w' o row) (hf : ∀ g, o.ownBlock = some g → u.ownBlock = some g ∨ w.heap.size ≤ g) : RO L base w' (vs.set i o) (rows.set i row) := by
  have hl : i < vs.length := by
    rcases Nat.lt_or_ge i vs.length with h | h
    · exact h
    · rw [List.getElem?_eq_none h] at hu; cases hu
  have hr : i < rows.length := by rw [← h.1]; exact hl
  refine ⟨by simp [h.1], fun j r hj => ?_, fun a b v v' hne ha hb k hk => ?_⟩
  · by_cases e : i = j
    · subst e
      rw [List.getElem?_set_self hr] at hj; cases hj
      exact ⟨o, List.getElem?_set_self hl, ho⟩
    · rw [List.getElem?_set_ne e] at hj
      obtain ⟨v, h1, h2⟩ := h.2.1 j r hj
      exact ⟨v, by rw [List.getElem?_set_ne e]; exact h1, h2.md hm fun k hk => h.2.2 j i v u (fun e' => e e'.symm) h1 hu k hk⟩
  · by_cases e1 : i = a
    · subst e1
      rw [List.getElem?_set_self hl] at ha; cases ha
      rw [List.getElem?_set_ne hne] at hb
      obtain ⟨r, _, h2⟩ := h.all hb
      rcases hf k hk with h' | h'
      · exact h.2.2 i b u v' hne hu hb k h'
      · intro e; have := (h2.block k e).2; omega
    · rw [List.getElem?_set_ne e1] at ha
      by_cases e2 : i = b
      · subst e2
        rw [List.getElem?_set_self hl] at hb; cases hb
        intro e
        obtain ⟨r, _, h2⟩ := h.all ha
        rcases hf k e with h' | h'
        · exact h.2.2 a i v u hne ha hu k hk h'
        · have := (h2.block k hk).2; omega
      · rw [List.getElem?_set_ne e2] at hb
        exact h.2.2 a b v v' hne ha hb k hk
theorem RO.cell {g e : Nat} (h : RO L base w vs rows) (hb : Blk w g e cs) (he : e ≠ 30) (hm : Md (· = g) w w') : RO L base w' vs rows :=
  ⟨h.1, fun i row hr => by obtain ⟨u, h1, h2⟩ := h.2.1 i row hr; exact ⟨u, h1, h2.md hm fun k hk e' => h2.ne hb he (by rw [← e']; exact hk)⟩, h.2.2⟩
theorem RO.toRows (h : RO L base w vs rows) (hn : ∀ r ∈ rows, r.length ≤ 1099511627776) : Rows true L (fun k => base ≤ k) w vs rows :=
  ⟨h.1, fun i row hr => by obtain ⟨u, h1, h2⟩ := h.2.1 i row hr; exact ⟨u, h1, h2.vec (hn _ (List.mem_of_getElem? hr))⟩⟩
theorem sli_blk {g e n : Nat} (hb : Blk w g e vs) (hl : vs.length = n) (hn : n ≤ 1099511627776) (hp : P g) : Sli (fun k _ => P k) w e 1 (.slice (some ⟨g, 0, none⟩) n n) n vs :=
  ⟨⟨by omega, hn⟩, .inr ⟨g, 0, n, rfl, Nat.le_refl _, hp, _, _, hb, fun j u hu => by simpa using hu⟩⟩
theorem idx1 {g R i : Nat} (hi : i < R) : indexAddrV (.slice 1) (.slice (some ⟨g, 0, none⟩) R R) (.int .i64 (i : Nat)) = some (.pointer (some ⟨g, i, none⟩)) := by
  have e : indexAddrV (.slice 1) (.slice (some ⟨g, 0, none⟩) R R) (.int .i64 (i : Nat)) = (if i < R then (plus ⟨g, 0, none⟩ (i * 1)).map fun a => Value.pointer (some a) else none) := rfl
  rw [e, if_pos hi]
  show some (Value.pointer (some ⟨g, 0 + i * 1, none⟩)) = _
  rw [Nat.zero_add, Nat.mul_one]
theorem rep_one (R : Nat) (x : Value) : rep R [x] = List.replicate R x := by simp [rep]
def ysAt (gs : List Goal) (n R : Nat) (s : St) (k i : Nat) : List (List Rat) := (List.range R).map fun j => (gs.take (if j < i then k + 1 else k)).map fun g => cost g (n + j) s
section
variable {gs : List Goal} {n R k i : Nat} {s : St}
theorem ysAt_length : (ysAt gs n R s k i).length = R := by simp [ysAt]
theorem ysAt_zero : ysAt gs n R s 0 0 = List.replicate R [] := by
  unfold ysAt
  apply List.ext_getElem?
  intro j
  rw [List.getElem?_map, List.getElem?_replicate]
  by_cases h : j < R
  · rw [List.getElem?_range h, if_pos h]; simp
  · rw [List.getElem?_eq_none (by simp; omega), if_neg h]; rfl
theorem ysAt_end : ysAt gs n R s k R = ysAt gs n R s (k + 1) 0 := by
  unfold ysAt
  refine List.map_congr_left fun j hj => ?_
  have : j < R := by simpa using hj
  rw [if_pos this, if_neg (by omega)]
theorem ysAt_all : ysAt gs n R s gs.length 0 = (List.range R).map fun j => gs.map fun g => cost g (n + j) s := by
  unfold ysAt
  refine List.map_congr_left fun j hj => ?_
  rw [if_neg (by omega), List.take_length]
theorem ysAt_row (hi : i < R) : Spx.rowAt (ysAt gs n R s k i) i = (gs.take k).map fun g => cost g (n + i) s := by
  unfold Spx.rowAt ysAt
  rw [List.getD_eq_getElem?_getD, List.getElem?_map, List.getElem?_range hi]
  simp
theorem ysAt_step (hk : k < gs.length) (hi : i < R) : (ysAt gs n R s k i).set i (Spx.rowAt (ysAt gs n R s k i) i ++ [cost gs[k] (n + i) s]) = ysAt gs n R s k (i + 1) := by
  rw [ysAt_row hi]
  apply List.ext_getElem?
  intro j
  by_cases hj : j < R
  · by_cases e : i = j
    · subst e
      rw [List.getElem?_set_self (by rw [ysAt_length]; exact hi)]
      unfold ysAt
      rw [List.getElem?_map, List.getElem?_range hi]
      simp only [Option.map_some, Nat.lt_succ_self, if_true]
      rw [List.take_add_one, List.getElem?_eq_getElem hk, List.map_append]
      rfl
    · rw [List.getElem?_set_ne e]
      unfold ysAt
      rw [List.getElem?_map, List.getElem?_map, List.getElem?_range hj]
      simp only [Option.map_some]
      have : (j < i + 1) ↔ (j < i) := by omega
      simp only [this]
  · rw [List.getElem?_eq_none (by simp [ysAt_length]; omega), List.getElem?_eq_none (by rw [ysAt_length]; omega)]
theorem ysAt_short (r : List Rat) (h : r ∈ ysAt gs n R s k i) : r.length ≤ gs.length := by
  unfold ysAt at h
  obtain ⟨j, _, rfl⟩ := List.mem_map.1 h
  simp; omega
end
def RsV (c : Bool) (L : Nat) (P : Nat → Prop) (w : World) (v : Value) (r : Res) : Prop :=
  ∃ x y ray far, v = .agg #[.int .u8 (r.kind : Nat), x, y, ray, far, .int .i64 (r.pivots : Nat)] ∧ Vec c L P w x r.x ∧ Mat c L P P w y r.y ∧ Vec c L P w ray r.ray ∧ Vec c L P w far r.far ∧ r.pivots < 4611686018427387904
variable {r : Res}
theorem RsV.grow (h : RsV c L P w v r) (hg : Grow w w') : RsV c L P w' v r := by
  obtain ⟨x, y, ray, far, h1, h2, h3, h4, h5, h6⟩ := h
  exact ⟨x, y, ray, far, h1, h2.grow hg, h3.grow hg, h4.grow hg, h5.grow hg, h6⟩
theorem RsV.mono (h : RsV c L P w v r) (hq : ∀ k, k < w.heap.size → P k → Q k) : RsV c L Q w v r := by
  obtain ⟨x, y, ray, far, h1, h2, h3, h4, h5, h6⟩ := h
  exact ⟨x, y, ray, far, h1, h2.mono hq, h3.mono hq hq, h4.mono hq, h5.mono hq, h6⟩
theorem RsV.le (h : RsV c L P w v r) (hl : L ≤ M) : RsV c M P w v r := by
  obtain ⟨x, y, ray, far, h1, h2, h3, h4, h5, h6⟩ := h
  exact ⟨x, y, ray, far, h1, h2.le hl, h3.le hl, h4.le hl, h5.le hl, h6⟩
theorem RsV.cells (h : RsV c L P w v r) : v.cells.toList.length = 6 ∧ (∀ u ∈ v.cells.toList, u.oneCell' = true) ∧ v = .agg v.cells.toList.toArray := by
  obtain ⟨x, y, ray, far, rfl, h2, h3, h4, h5, h6⟩ := h
  refine ⟨rfl, fun u hu => ?_, by simp [Value.cells]⟩
  simp [Value.cells] at hu
  rcases hu with rfl | rfl | rfl | rfl | rfl | rfl
  · rfl
  · exact h2.one
  · exact h3.one
  · exact h4.one
  · exact h5.one
  · rfl
end
end Go.Proofs.YtaajkcngcalgoaaGreat
namespace Go.Vc
open Go
theorem callV.bnd {C : Ctx} {w : World} {f : FuncId} {first : Array Value} {args : List Value} {k : Value → World → Prop} (hb : C.B f = true) (h : CallP C f (first.toList ++ args) w k) : callV C (.func (.func f) first #[]) args w k := by
  refine ⟨hb, ?_⟩
  simpa using h
end Go.Vc
namespace Go.Proofs.YtaajkcngcalgoaaGreat
namespace Lx
open Go Go.Vc Go.Spx
attribute [local irreducible] Tryz.prog
def Ends (L base more : Nat) (P : Nat → Prop) (w : World) (v : Value) (p : Lp) (F : Wf) (s : St) : Prop :=
  ∃ o r b, v = .agg #[.int .i64 p.vars, o, r, b, .pointer (some ⟨F.g, 0, none⟩), .int .i64 (more : Nat)] ∧ LpR true L P w (.agg #[.int .i64 p.vars, o, r, b]) p ∧ Wk L base F w s
section
variable {c c' d : Bool} {L M K base more n : Nat} {w w' w'' : World} {v o u a b q fv : Value} {x y z : Rat} {xs ys row : List Rat} {m m' : List (List Rat)} {S P P' Q Q' : Nat → Prop} {cs vs : List Value} {s s' : St} {F : Wf} {g : Goal} {p : Lp} {gs : List Goal}
theorem Ends.grow (h : Ends L base more P w v p F s) (hg : Grow w w') : Ends L base more P w' v p F s := by
  obtain ⟨o, r, b, h1, h2, h3⟩ := h; exact ⟨o, r, b, h1, h2.grow hg, h3.grow hg⟩
theorem pointFrom_length {n : Nat} {r : List Rat} : ∀ (b : List Nat) (i : Nat) (x : List Rat), (pointFrom n r i b x).length = x.length
  | [], i, x => rfl
  | k :: b, i, x => by
    unfold pointFrom
    rw [pointFrom_length b (i + 1)]
    split <;> simp
theorem point_length {n : Nat} : (point n s).length = n := by unfold point; rw [pointFrom_length]; simp
theorem drop_b {l : List Nat} {i : Nat} (h : i < l.length) : l.drop i = l.getD i 0 :: l.drop (i + 1) := by
  rw [List.drop_eq_getElem_cons h, List.getD_eq_getElem?_getD, List.getElem?_eq_getElem h]; rfl
theorem c190 (h : Ends L base more P w v p F s) (hv0 : 0 ≤ p.vars) (hn : p.n ≤ 1048576) (h1 : 2 ≤ L) (h2 : L ≤ 268435456) :
    CallP CC 190 [v] w fun r w' => Grow w w' ∧ VecO true L w.heap.size w' r (point p.n s) := by
  have hvn : p.vars = (p.n : Int) := by unfold Lp.n; omega
  obtain ⟨ob, rw_, bd, rfl, hlp, hw⟩ := h
  have hlm := hw.shape.lim
  have hbl := hw.shape.basis
  apply call190
  refine BoxP.mk fun g1 w1 hg1 hl1 hl1' hb1 => ?_
  have z1 := hg1.size
  have hb1 : Blk w1 g1 206 [.int .i64 p.vars, ob, rw_, bd, .pointer (some ⟨F.g, 0, none⟩), .int .i64 (more : Nat)] := hb1
  refine px rfl (px rfl (LoadP.fld (o := 0) hb1 ti3 rfl ?_))
  rw [hvn] at hb1 ⊢
  refine MakeP.mk (C := CC) sl23 ti30 rfl (by decide) (by omega) (by simp only [maxLen]; omega) fun g9 w3 hg3 hl9 hl9' hb9 => ?_
  have z3 := hg3.size
  have hg03 := hg1.trans hg3
  have hw3 := hw.grow hg03
  have hb13 := hb1.grow hg3
  have hx0 : VecO true L w.heap.size w3 (.slice (some ⟨g9, 0, none⟩) p.n p.n) (List.replicate p.n 0) := VecO.made hb9 (by omega) (by omega) (by omega)
  refine px rfl (LoadP.fld (o := 4) hb13 ti202 rfl (px rfl (px rfl (px rfl (LoadP.fld (o := 2) hw3.blk ti67 rfl (px hw3.basis.len ?_))))))
  refine ⟨fun v w' => ∃ (i : Nat) (x : List Rat), v = .int .i64 (i : Nat) ∧ i ≤ s.b.length ∧ Md (· = g9) w3 w' ∧ VecO true L w.heap.size w' (.slice (some ⟨g9, 0, none⟩) p.n p.n) x ∧ x.length = p.n ∧ pointFrom p.n s.r i (s.b.drop i) x = point p.n s, fun v _ => s.b.length - (vint v).toNat,
    ⟨0, _, rfl, by omega, Md.refl _, hx0, by simp, rfl⟩, ?_⟩
  rintro _ - w6 ⟨i, x, rfl, hi, hm6, hx, hxl, hpt⟩
  have z6 := hm6.size
  have hgr : Grow w w6 := Md.new hg03 hm6 fun k hk => by omega
  have hw6 := hw.grow hgr
  have hb16 := hb13.md hm6 (by omega)
  refine px rfl (cD (fun hlt => ?_) (fun hge => ?_))
  · have hib : i < s.b.length := by omega
    have hir : i < s.r.length := by rw [hw6.shape.right, ← hw6.shape.basis]; exact hib
    obtain ⟨gb, hgb, hidb⟩ := hw6.basis.idx (k := .i64) hib
    refine px hidb (hw6.basis.load (C := CC) rfl hgb hib (px rfl (px rfl (LoadP.fld (o := 0) hb16 ti3 rfl (px rfl (cD (fun hkn => ?_) (fun hkn => ?_)))))))
    · have hkn' : s.b.getD i 0 < p.n := by omega
      obtain ⟨gr, hgr', hidr⟩ := hw6.right.idx (k := .i64) hir
      refine px rfl (LoadP.fld (o := 4) hb16 ti202 rfl (px rfl (px rfl (px rfl (LoadP.fld (o := 1) hw6.blk ti23 rfl (px hidr (hw6.right.load (C := CC) rfl hgr' hir fun r hr => (q87 hr h1 h2).mono ?_)))))))
      rintro r' w12 ⟨hg12, hr'⟩
      have hx12 := hx.grow hg12
      obtain ⟨gx, hgx, hidx⟩ := hx12.idx (k := .i64) (i := s.b.getD i 0) (by omega)
      have egx : gx = g9 := by simpa [Value.ownBlock] using hgx.symm
      subst egx
      refine px hidx (hx12.store hr' hgx (by omega) fun w13 hm13 hx13 => ?_)
      refine pi rfl (by omega) ⟨⟨i + 1, _, by simp, by omega, (hm6.trans (Md.grow hg12)).trans (hm13.mono fun k hk => by simpa [Value.ownBlock] using hk.symm), hx13, by simpa using hxl, ?_⟩, by simp only [vint_int]; omega⟩
      rw [drop_b hib] at hpt
      unfold pointFrom at hpt
      rw [if_pos hkn'] at hpt; exact hpt
    · have hkn' : ¬ s.b.getD i 0 < p.n := by omega
      refine pi rfl (by omega) ⟨⟨i + 1, x, by simp, by omega, hm6, hx, hxl, ?_⟩, by simp only [vint_int]; omega⟩
      rw [drop_b hib] at hpt
      unfold pointFrom at hpt
      rw [if_neg hkn'] at hpt; exact hpt
  · have : i = s.b.length := by omega
    subst this
    rw [List.drop_length] at hpt
    have hpt' : x = point p.n s := hpt
    rw [hpt'] at hx
    exact ⟨hgr, hx⟩
end
end Lx
end Go.Proofs.YtaajkcngcalgoaaGreat
namespace Go.Proofs.YtaajkcngcalgoaaGreat
namespace Lx
open Go Go.Vc Go.Spx
attribute [local irreducible] Tryz.prog
section
variable {c c' d : Bool} {L M K base more n : Nat} {w w' w'' : World} {v o u a b q fv : Value} {x y z : Rat} {xs ys row : List Rat} {m m' : List (List Rat)} {S P P' Q Q' : Nat → Prop} {cs vs : List Value} {s s' : St} {F : Wf} {g : Goal} {p : Lp} {gs : List Goal}
theorem ends_load {g2 : Nat} {x1 x2 x3 x4 x5 x6 : Value} {k : Value → World → Prop} (hb : Blk w g2 206 [x1, x2, x3, x4, x5, x6]) (hk : k (.agg #[x1, x2, x3, x4]) w) : LoadP CC 25 (.pointer (some ⟨g2, 0, none⟩)) w k := by
  refine LoadP.many (C := CC) (cs := [x1, x2, x3, x4]) ti25 hb rfl (fun j u hu => ?_) hk
  match j, hu with
  | 0, hu => simpa using hu
  | 1, hu => simpa using hu
  | 2, hu => simpa using hu
  | 3, hu => simpa using hu
theorem c163 (h : Ends L base more P w v p F s) (hF : F.cols = p.n + p.rows.length + 1) (hms : s.m.length = p.rows.length) (hv0 : 0 ≤ p.vars) (hn : p.n + p.rows.length + 1 ≤ 1024) (h1 : 2 ≤ L) (h2 : L + (s.m.length + 1) * (2 * L + 1) ≤ 268435456) (ho : p.objs.length ≤ 1048576) :
    CallP CC 163 [v, a] w fun r w' => Grow w w' ∧ RsV true (L + s.m.length * (2 * L + 1)) (fun k => w.heap.size ≤ k) w' r { kind := 1, x := point p.n s, y := (List.range p.rows.length).map fun i => (goals p).map fun g => cost g (p.n + i) s, ray := [], far := [], pivots := 0 } := by
  have hvn : p.vars = (p.n : Int) := by unfold Lp.n; omega
  have hL2 : L ≤ 268435456 := by omega
  obtain ⟨W, hW⟩ : ∃ W, W = L + s.m.length * (2 * L + 1) := ⟨_, rfl⟩
  rw [← hW]
  have hLW : L ≤ W := by omega
  obtain ⟨R, hR⟩ : ∃ R, R = p.rows.length := ⟨_, rfl⟩
  rw [← hR] at hn hF hms ⊢
  have hE := h
  obtain ⟨ob, rw_, bd, rfl, hlp, hw⟩ := h
  have hlm := hw.shape.lim
  apply call163
  refine BoxP.mk fun g2 w1 hg1 hl1 hl1' hb2 => ?_
  have z1 := hg1.size
  have hb2 : Blk w1 g2 206 [.int .i64 p.vars, ob, rw_, bd, .pointer (some ⟨F.g, 0, none⟩), .int .i64 (more : Nat)] := hb2
  refine AllocP.mk (C := CC) ti37 fun g4 w2 hg2 hl4 hl4' hb4 => ?_
  have z2 := hg2.size
  have hb22 := hb2.grow hg2
  have elr : lenV (tyOf tyTab 22) rw_ = some (.int .i64 (R : Nat)) := by rw [hR]; exact hlp.rws.len
  refine px rfl (px rfl (LoadP.fld (o := 2) hb22 ti22 rfl (px elr ?_)))
  refine MakeP.mk (C := CC) sl22 ti23 rfl (by decide) (by omega) (by simp only [maxLen]; omega) fun g13 w4 hg4 hl13 hl13' hb13 => ?_
  have z4 := hg4.size
  rw [rep_one] at hb13
  have hb24 := hb22.grow hg4
  have hg04 := (hg1.trans hg2).trans hg4
  refine px rfl (ends_load hb24 ((c166 (hlp.grow hg04) hv0 (by omega) h1 hL2 ho).mono ?_))
  rintro v16 w6 ⟨hg6, hG⟩
  have z6 := hg6.size
  have hg06 := hg04.trans hg6
  have hG : GoalsO w4.heap.size (fun k => w4.heap.size ≤ k ∧ k < w6.heap.size) L w6 v16 (goals p) := by
    obtain ⟨fs, hh1, hh2, hh3⟩ := hG
    exact ⟨fs, hh1, hh2, fun i g hi => by obtain ⟨fv, h5, h6⟩ := hh3 i g hi; exact ⟨fv, h5, h6.mono fun k hk hk' => ⟨hk', hk⟩⟩⟩
  have hGb := hG.block
  have hb26 := hb24.grow hg6
  have hb46 := (hb4.grow hg4).grow hg6
  have hb136 := hb13.grow hg6
  have hE6 := hE.grow hg06
  have hWl : ∀ k, WS F k → k < w.heap.size := fun k hk => (hw.lt hk).2
  refine px hG.len ?_
  -- what stays, while rows are built
  refine ⟨fun v' w' => ∃ (k : Nat) (vs : List Value), v' = .int .i64 (k : Nat) ∧ k ≤ (goals p).length ∧ Md (fun k => k = g13 ∨ w6.heap.size ≤ k) w6 w' ∧ Blk w' g13 23 vs ∧ RO W w6.heap.size w' vs (ysAt (goals p) p.n R s k 0), fun v' _ => (goals p).length - (vint v').toNat,
    ⟨0, _, rfl, by omega, Md.refl _, hb136, by rw [ysAt_zero]; exact RO.made R⟩, ?_⟩
  rintro _ - w7 ⟨k, vs, rfl, hk, hm7, hb137, hRO⟩
  have z7 := hm7.size
  have keep : ∀ {w' : World}, Md (fun k => k = g13 ∨ w6.heap.size ≤ k) w6 w' → Wk L base F w' s ∧ Blk w' g2 206 [.int .i64 p.vars, ob, rw_, bd, .pointer (some ⟨F.g, 0, none⟩), .int .i64 (more : Nat)] ∧ Blk w' g4 37 [.int .u8 0, .slice none 0 0, .slice none 0 0, .slice none 0 0, .slice none 0 0, .int .i64 0] ∧ GoalsO w4.heap.size (fun k => w4.heap.size ≤ k ∧ k < w6.heap.size) L w' v16 (goals p) := fun hm => by
    refine ⟨hw.grow (Md.new hg04 ((Md.grow hg6).trans hm) fun k hk => ?_), hb26.md hm ?_, hb46.md hm ?_, hG.md hm ?_ ?_⟩
    · rcases hk with rfl | hk <;> omega
    · rintro (e | e) <;> omega
    · rintro (e | e) <;> omega
    · intro k hk hs
      have := hGb k hk
      rcases hs with e | e <;> omega
    · intro k hk hs
      rcases hs with e | e <;> omega
  obtain ⟨hw7, hb27, hb47, hG7⟩ := keep hm7
  refine px rfl (cD (fun hlt => ?_) (fun hge => ?_))
  · have hkl : k < (goals p).length := by omega
    obtain ⟨ad, had⟩ := hG7.idx hkl
    refine px had (hG7.load had hkl fun fv hfv => ?_)
    refine AllocP.mk (C := CC) ti210 fun g7 w9 hg9 hl7 hl7' hb7 => ?_
    have z9 := hg9.size
    refine StoreP.row (C := CC) (cs := [fv]) hb7 ti210 rfl rfl (by simpa using hfv.one) fun w10 hu10 hb710 => ?_
    have hm910 : Md (· = g7) w9 w10 := Md.of hu10 hb7 (by decide)
    have z10 := hm910.size
    have hg710 : Grow w7 w10 := Md.new hg9 hm910 fun k hk => by omega
    refine px rfl ?_
    refine ⟨fun v' w' => ∃ (i : Nat) (vs : List Value), v' = .int .i64 (i : Nat) ∧ i ≤ R ∧ Md (fun k => k = g13 ∨ w6.heap.size ≤ k) w6 w' ∧ Blk w' g13 23 vs ∧ Blk w' g7 210 [fv] ∧ GoalV L (fun k => w4.heap.size ≤ k ∧ k < w6.heap.size) w' fv (goals p)[k] ∧ RO W w6.heap.size w' vs (ysAt (goals p) p.n R s k i) ∧ g7 < w'.heap.size, fun v' _ => R - (vint v').toNat,
      ⟨0, vs, rfl, by omega, hm7.trans (Md.grow hg710), hb137.grow hg710, hb710, hfv.grow hg710, hRO.grow hg710, by omega⟩, ?_⟩
    rintro _ - w11 ⟨i, vs1, rfl, hi, hm11, hb1311, hb711, hfv11, hRO11, hl711⟩
    obtain ⟨hw11, hb211, hb411, hG11⟩ := keep hm11
    have z11 := hm11.size
    refine px rfl (cD (fun hlt2 => ?_) (fun hge2 => ?_))
    · have hiR : i < R := by omega
      obtain ⟨u, hu, huO⟩ := hRO11.get (i := i) (by rw [ysAt_length]; exact hiR)
      have hub := huO.block
      have hidx : indexAddrV (tyOf tyTab 22) (.slice (some ⟨g13, 0, none⟩) R R) (.int .i64 (i : Nat)) = _ := idx1 hiR
      have eadd : binV (.int .i64) .add (.int .i64 (p.n : Nat)) (.int .i64 (i : Nat)) = some (.int .i64 ((p.n + i : Nat) : Int)) := bin_add (by omega)
      have hrl : ∀ r ∈ ysAt (goals p) p.n R s k i, r.length ≤ (goals p).length := fun r hr => ysAt_short r hr
      have hgl : (goals p).length < 1099511627776 := by simp [goals]; omega
      obtain ⟨cst, hcst⟩ : ∃ z : Rat, z = cost (goals p)[k] (p.n + i) s := ⟨_, rfl⟩
      have hrow1 : (Spx.rowAt (ysAt (goals p) p.n R s k i) i).length < 1099511627776 := by
        have := hrl _ (rowAt_mem (by rw [ysAt_length]; exact hiR)); omega
      refine ⟨PhS (fun k => k = g13 ∨ w6.heap.size ≤ k), fun l w' => match l with
          | [] => Md (fun k => k = g13 ∨ w6.heap.size ≤ k) w6 w' ∧ Blk w' g13 23 vs1 ∧ Blk w' g7 210 [fv] ∧ GoalV L (fun k => w4.heap.size ≤ k ∧ k < w6.heap.size) w' fv (goals p)[k] ∧ RO W w6.heap.size w' vs1 (ysAt (goals p) p.n R s k i)
          | [o'] => Md (fun k => k = g13 ∨ w6.heap.size ≤ k) w6 w' ∧ Blk w' g13 23 vs1 ∧ Blk w' g7 210 [fv] ∧ GoalV L (fun k => w4.heap.size ≤ k ∧ k < w6.heap.size) w' fv (goals p)[k] ∧ RO W w6.heap.size w' (vs1.set i o') (ysAt (goals p) p.n R s k (i + 1)) ∧ o'.oneCell' = true
          | _ => ∃ vs2, Md (fun k => k = g13 ∨ w6.heap.size ≤ k) w6 w' ∧ Blk w' g13 23 vs2 ∧ Blk w' g7 210 [fv] ∧ GoalV L (fun k => w4.heap.size ≤ k ∧ k < w6.heap.size) w' fv (goals p)[k] ∧ RO W w6.heap.size w' vs2 (ysAt (goals p) p.n R s k (i + 1)),
        PhS.grow _, PhS.trans _, fun w' hg => ⟨hm11.trans (Md.grow hg), hb1311.grow hg, hb711.grow hg, hfv11.grow hg, hRO11.grow hg⟩,
        fun z _ => z = u, fun z _ => z = .pointer (some ⟨F.g, 0, none⟩), fun z _ => z = .agg #[fv], fun z _ => z = .int .i64 (p.n : Nat), fun z s' => QR true W s'.2 z cst,
        fun z s' => s'.1 = 0 → ∃ t : Value, One w11.heap.size 30 s'.2 z t.cells.toList ∧ QR true W s'.2 t cst, fun _ _ => True, fun _ _ => True, ?_, ?_, ?_, ?_, ?_, ?_, ?_, ?_, ?_, ?_, ?_, ?_, ?_, ?_, ?_⟩
      any_goals ((try dsimp only [Fw, Fl]); intros; first | exact ⟨_, rfl⟩ | fail)
      · intro n w1 hn ht; exact ⟨_, hidx⟩
      · intro n w1 hn ht
        obtain ⟨rfl, hg⟩ := ht.z hn
        rw [hidx]
        exact LoadP.fld (hb1311.grow hg) ti23 hu ⟨Grow.refl _, fun _ _ _ => rfl⟩
      · intro _ n w1 hn ht
        obtain ⟨rfl, hg⟩ := ht.z hn
        exact LoadP.fld (o := 4) (hb211.grow hg) ti202 rfl ⟨Grow.refl _, fun _ _ _ => rfl⟩
      · intro _ _ n w1 hn ht
        obtain ⟨rfl, hg⟩ := ht.z hn
        exact LoadP.row (C := CC) (cs := [fv]) ti210 (hb711.grow hg) rfl ⟨Grow.refl _, fun _ _ _ => rfl⟩
      · intro _ _ _ n w1 hn ht
        obtain ⟨rfl, hg⟩ := ht.z hn
        exact LoadP.fld (o := 0) (hb211.grow hg) ti3 rfl ⟨Grow.refl _, fun _ _ _ => by rw [hvn]⟩
      · rintro _ _ _ _ n w1 hn ht rfl; exact ⟨_, rfl⟩
      · rintro _ _ _ _ n w1 hn ht rfl rfl rfl
        obtain ⟨rfl, hg⟩ := ht.z hn
        rw [eadd]
        refine fg (c202 (hw11.grow hg) (hfv11.grow hg) (by omega) h1 h2) fun r w5 m w6 hr ht => ?_
        rw [← hW, ← hcst] at hr; exact hr.md ht.md
      · rintro _ _ _ _ v41 n w1 hn ht _ _ _ h41
        obtain ⟨rfl, hg⟩ := ht.z hn
        refine litQ h41 fun t w5 hg5 ho => ⟨hg5, fun m w6 ht hm => ⟨v41, (One.down ho hg.size).grow (ht.z (Nat.le_of_eq hm)).2, (h41.grow hg5).md ht.md⟩⟩
      · rintro _ _ _ _ _ _ n w1 hn ht rfl hL e32 _ _ _ _ h42
        rw [e32]
        obtain ⟨_, hg⟩ := ht.z (Nat.le_refl _)
        have zg := hg.size
        obtain ⟨t, ho, ht'⟩ := h42 rfl
        obtain ⟨hLm, hLb, hL7, hLf, hLR⟩ := hL
        obtain ⟨u2, hu2, huO2⟩ := hLR.get (i := i) (by rw [ysAt_length]; exact hiR)
        have e2 : u = u2 := Option.some.inj (hu.symm.trans hu2)
        rw [← e2] at huO2
        refine appQ1 huO2 ho ht' (by omega) hrow1 fun o' w' ho' hm hf => ?_
        have hRO' := hLR.app hu hm ho' hf
        rw [hcst, ysAt_step hkl hiR] at hRO'
        have hne13 : u.ownBlock ≠ some g13 := fun e => by have := (hub _ e).1; omega
        have hmS : Md (fun k => k = g13 ∨ w6.heap.size ≤ k) w1 w' := hm.mono fun k hk => .inr (hub k hk).1
        refine ⟨PhS.next hmS, fun _ _ _ => trivial, fun w'' hg => ⟨(hLm.trans hmS).trans (Md.grow hg), (hLb.md hm hne13).grow hg, (hL7.md hm (huO2.ne hL7 (by decide))).grow hg, (hLf.md hm fun k hk e => by have := (hub _ e).1; omega).grow hg, hRO'.grow hg, ho'.one⟩⟩
      · (try dsimp only [Fw, Fl]); intros; exact ⟨_, hidx⟩
      · intro _ _ _ _ _ _ o' n w1 hn ht e hL
        subst e
        intros
        obtain ⟨hLm, hLb, hL7, hLf, hLR, hone⟩ := hL
        rw [hidx]
        have hil : i < vs1.length := by rw [hRO11.1, ysAt_length]; exact hiR
        refine StoreP.one (C := CC) (o := i) ti23 hLb hone hil fun w' hu' hb' => ?_
        have hm := Md.of hu' hLb (by decide)
        have hmS : Md (fun k => k = g13 ∨ w6.heap.size ≤ k) w1 w' := hm.mono fun k hk => .inl hk
        refine ⟨PhS.next hmS, fun _ _ _ => trivial, fun w'' hg => ⟨vs1.set i o', (hLm.trans hmS).trans (Md.grow hg), hb'.grow hg, (hL7.md hm (Blk.ne hL7 hLb (by decide))).grow hg, (hLf.md hm fun k hk e => by subst e; omega).grow hg, (hLR.cell hLb (by decide) hm).grow hg⟩⟩
      rintro _ _ _ _ _ _ _ _ _ w34 ht _ _ _ _ _ _ _ _ ⟨vs2, hLm, hLb, hL7, hLf, hLR⟩
      have := ht.md.size
      exact pi rfl (by omega) ⟨⟨i + 1, vs2, by simp, by omega, hLm, hLb, hL7, hLf, hLR, by omega⟩, by simp only [vint_int]; omega⟩
    · have : i = R := by omega
      subst this
      rw [ysAt_end] at hRO11
      exact pi rfl (by have : (goals p).length ≤ 2097152 := by (simp [goals]; omega)
                       omega) ⟨⟨k + 1, vs1, by simp, by omega, hm11, hb1311, hRO11⟩, by simp only [vint_int]; omega⟩
  · have : k = (goals p).length := by omega
    subst this
    rw [ysAt_all] at hRO
    have hg07 : Grow w w7 := Md.new hg04 ((Md.grow hg6).trans hm7) fun k hk => by rcases hk with rfl | hk <;> omega
    have hE7 := hE.grow hg07
    refine LoadP.row (C := CC) (cs := [.int .i64 p.vars, ob, rw_, bd, .pointer (some ⟨F.g, 0, none⟩), .int .i64 (more : Nat)]) ti206 hb27 rfl ?_
    refine (c190 hE7 hv0 (by omega) h1 hL2).mono ?_
    rintro vx w36 ⟨hg36, hx⟩
    have hb436 := hb47.grow hg36
    have hgl : (goals p).length ≤ 2097152 := by simp [goals]; omega
    have hxl := hx.len
    obtain ⟨xa, xc, rfl⟩ := hxl
    refine px rfl ?_
    refine StoreP.row (C := CC) (cs := [.int .u8 1, .slice xa (point p.n s).length xc, .slice (some ⟨g13, 0, none⟩) R R, .slice none 0 0, .slice none 0 0, .int .i64 0]) hb436 ti37 rfl rfl (fun t ht => ?_) fun w37 hu37 hb37 => ?_
    · simp only [List.mem_cons, List.not_mem_nil, or_false] at ht
      rcases ht with rfl | rfl | rfl | rfl | rfl | rfl
      · rfl
      all_goals rfl
    have hm37 : Md (· = g4) w36 w37 := Md.of hu37 hb436 (by decide)
    have z36 := hg36.size
    refine ⟨_, _, rfl, res_row (P := CC.P) ti37 hb37 rfl, Md.new (hg07.trans hg36) hm37 fun k hk => by omega, .slice xa (point p.n s).length xc, _, _, _, rfl, ?_, ?_, Vec.nil, Vec.nil, by show 0 < _; omega⟩
    · refine (((hx.le hLW).vec (by rw [point_length]; omega)).mono (Q := fun k => w.heap.size ≤ k) fun k _ hk => by have := hg07.size; omega).md2 hm37 fun k _ hk c fr he => ?_
      subst hk; unfold Blk at hb436; rw [hb436] at he; cases he
    · have hRO37 : RO W w6.heap.size w37 vs _ := (hRO.grow hg36).md hm37 fun k hk e => by omega
      refine ⟨vs, ?_, (hRO37.toRows fun r hr => ?_).mono fun k _ hk => by omega⟩
      · have hl : vs.length = R := by rw [hRO.1]; simp
        have := sli_blk (P := fun k => w.heap.size ≤ k) ((hb137.grow hg36).md hm37 (by omega)) hl (by omega) (by omega)
        simpa using this
      · obtain ⟨i, _, rfl⟩ := List.mem_map.1 hr
        simp; omega
end
end Lx
end Go.Proofs.YtaajkcngcalgoaaGreat
namespace Go.Proofs.YtaajkcngcalgoaaGreat
namespace Lx
open Go Go.Vc Go.Spx
attribute [local irreducible] Tryz.prog
section
variable {c c' d : Bool} {L M K base more n : Nat} {w w' w'' : World} {v o u a b q fv : Value} {x y z : Rat} {xs ys row : List Rat} {m m' : List (List Rat)} {S P P' Q Q' : Nat → Prop} {cs vs : List Value} {s s' : St} {F : Wf} {g : Goal} {p : Lp} {gs : List Goal}
theorem c165 (h : Ends L base more P w v p F s) (hF : F.cols = p.n + p.rows.length + 1) (hmo : more = p.n + p.rows.length) (hms : s.m.length = p.rows.length) (hv0 : 0 ≤ p.vars) (hn : p.n + p.rows.length + 1 ≤ 1024) (h1 : 2 ≤ L) (h2 : L + (s.m.length + 1) * (2 * L + 1) ≤ 268435456) :
    CallP CC 165 [v, a] w fun r w' => Grow w w' ∧ RsV true (L + s.m.length * (2 * L + 1)) (fun k => w.heap.size ≤ k) w' r { kind := 2, x := [], y := [], ray := [], far := (List.range p.rows.length).map fun i => cost (artG (p.n + p.rows.length)) (p.n + i) s, pivots := 0 } := by
  have hvn : p.vars = (p.n : Int) := by unfold Lp.n; omega
  have hL2 : L ≤ 268435456 := by omega
  obtain ⟨W, hW⟩ : ∃ W, W = L + s.m.length * (2 * L + 1) := ⟨_, rfl⟩
  rw [← hW, ← hmo]
  have hLW : L ≤ W := by omega
  obtain ⟨R, hR⟩ : ∃ R, R = p.rows.length := ⟨_, rfl⟩
  rw [← hR] at hn hF hms hmo ⊢
  obtain ⟨ob, rw_, bd, rfl, hlp, hw⟩ := h
  have hlm := hw.shape.lim
  apply call165
  refine BoxP.mk fun g2 w1 hg1 hl1 hl1' hb2 => ?_
  have z1 := hg1.size
  have hb2 : Blk w1 g2 206 [.int .i64 p.vars, ob, rw_, bd, .pointer (some ⟨F.g, 0, none⟩), .int .i64 (more : Nat)] := hb2
  refine AllocP.mk (C := CC) ti37 fun g4 w2 hg2 hl4 hl4' hb4 => ?_
  have z2 := hg2.size
  refine px rfl (px rfl (AllocP.mk (C := CC) ti210 fun g5 w3 hg3 hl5 hl5' hb5 => ?_))
  have z3 := hg3.size
  refine StoreP.row (C := CC) (cs := [.func (.func 204) #[] #[.pointer (some ⟨g2, 0, none⟩)]]) hb5 ti210 rfl rfl (by simp [Value.oneCell']) fun w4 hu4 hb54 => ?_
  have hm4 : Md (· = g5) w3 w4 := Md.of hu4 hb5 (by decide)
  have z4 := hm4.size
  have hg24 : Grow w2 w4 := Md.new hg3 hm4 fun k hk => by omega
  have hg14 := hg2.trans hg24
  have hb24 := hb2.grow hg14
  have elr : lenV (tyOf tyTab 22) rw_ = some (.int .i64 (R : Nat)) := by rw [hR]; exact hlp.rws.len
  refine px rfl (px rfl (LoadP.fld (o := 2) hb24 ti22 rfl (px elr ?_)))
  refine MakeP.mk (C := CC) sl23 ti30 rfl (by decide) (by omega) (by simp only [maxLen]; omega) fun g14 w6 hg6 hl14 hl14' hb14 => ?_
  have z6 := hg6.size
  have hg06 := (hg1.trans hg14).trans hg6
  have hx0 : VecO true W w.heap.size w6 (.slice (some ⟨g14, 0, none⟩) R R) (List.replicate R 0) := VecO.made hb14 (by omega) (by omega) (by omega)
  refine px (v := .int .i64 (R : Nat)) rfl ?_
  refine ⟨fun v' w' => ∃ i : Nat, v' = .int .i64 (i : Nat) ∧ i ≤ R ∧ Md (· = g14) w6 w' ∧ VecO true W w.heap.size w' (.slice (some ⟨g14, 0, none⟩) R R) ((List.range i).map (fun j => cost (artG more) (p.n + j) s) ++ List.replicate (R - i) 0), fun v' _ => R - (vint v').toNat,
    ⟨0, rfl, by omega, Md.refl _, by simpa using hx0⟩, ?_⟩
  rintro _ - w7 ⟨i, rfl, hi, hm7, hx⟩
  have z7 := hm7.size
  have hg07 : Grow w w7 := Md.new hg06 hm7 fun k hk => by omega
  have hw7 := hw.grow hg07
  have hb27 := (hb24.grow hg6).md hm7 (by omega)
  have hb57 := (hb54.grow hg6).md hm7 (by omega)
  have hb47 := ((hb4.grow hg24).grow hg6).md hm7 (by omega)
  refine px rfl (cD (fun hlt => ?_) (fun hge => ?_))
  · have hiR : i < R := by omega
    have eadd : binV (.int .i64) .add (.int .i64 (p.n : Nat)) (.int .i64 (i : Nat)) = some (.int .i64 ((p.n + i : Nat) : Int)) := bin_add (by omega)
    have hgv : GoalV L (fun k => k = g2) w7 (.func (.func 204) #[] #[.pointer (some ⟨g2, 0, none⟩)]) (artG more) := .inr (.inr ⟨g2, more, _, rfl, hb27, rfl, rfl, rfl⟩)
    refine px rfl (LoadP.fld (o := 4) hb27 ti202 rfl (LoadP.row (C := CC) (cs := [.func (.func 204) #[] #[.pointer (some ⟨g2, 0, none⟩)]]) ti210 hb57 rfl (px rfl (px rfl (LoadP.fld (o := 0) hb27 ti3 rfl ?_)))))
    rw [hvn]
    refine px eadd ((c202 hw7 hgv (by omega) h1 h2).mono ?_)
    rintro r w11 ⟨hg11, hr⟩
    rw [← hW] at hr
    have hx11 := hx.grow hg11
    have hil : i < ((List.range i).map (fun j => cost (artG more) (p.n + j) s) ++ List.replicate (R - i) 0).length := by simp; omega
    obtain ⟨gx, hgx, hidx⟩ := hx11.idx (k := .i64) hil
    have egx : gx = g14 := by simpa [Value.ownBlock] using hgx.symm
    subst egx
    refine px hidx (hx11.store hr hgx hil fun w12 hm12 hx12 => ?_)
    rw [setpart hiR] at hx12
    exact pi rfl (by omega) ⟨⟨i + 1, by simp, by omega, (hm7.trans (Md.grow hg11)).trans (hm12.mono fun k hk => by simpa [Value.ownBlock] using hk.symm), hx12⟩, by simp only [vint_int]; omega⟩
  · have : i = R := by omega
    subst this
    rw [Nat.sub_self, List.replicate_zero, List.append_nil] at hx
    refine px rfl ?_
    refine StoreP.row (C := CC) (cs := [.int .u8 2, .slice none 0 0, .slice none 0 0, .slice none 0 0, .slice (some ⟨g14, 0, none⟩) i i, .int .i64 0]) hb47 ti37 rfl rfl (fun t ht => ?_) fun w37 hu37 hb37 => ?_
    · simp only [List.mem_cons, List.not_mem_nil, or_false] at ht
      rcases ht with rfl | rfl | rfl | rfl | rfl | rfl <;> rfl
    have hm37 : Md (· = g4) w7 w37 := Md.of hu37 hb47 (by decide)
    refine ⟨_, _, rfl, res_row (P := CC.P) ti37 hb37 rfl, Md.new hg07 hm37 fun k hk => by omega, _, _, _, .slice (some ⟨g14, 0, none⟩) i i, rfl, Vec.nil, Mat.nil, Vec.nil, ?_, by show 0 < _; omega⟩
    refine (hx.vec (by simp; omega)).md2 hm37 fun k _ hk c fr he => ?_
    subst hk; unfold Blk at hb47; rw [hb47] at he; cases he
theorem c168 {col : Nat} (h : Ends L base more P w v p F s) (hcol : col < F.cols) (hcl : F.cols ≤ 1048576) (hv0 : 0 ≤ p.vars) (hn : p.n ≤ 1024) (h1 : 2 ≤ L) (h2 : L ≤ 268435456) :
    CallP CC 168 [v, .int .i64 (col : Nat)] w fun r w' => Grow w w' ∧ RsV true L (fun k => w.heap.size ≤ k) w' r { kind := 3, x := point p.n s, y := [], ray := rayFrom p.n col s.m 0 s.b (if col < p.n then (List.replicate p.n 0).set col 1 else List.replicate p.n 0), far := [], pivots := 0 } := by
  have hvn : p.vars = (p.n : Int) := by unfold Lp.n; omega
  have hE := h
  obtain ⟨ob, rw_, bd, rfl, hlp, hw⟩ := h
  have hlm := hw.shape.lim
  have hbl := hw.shape.basis
  apply call168
  refine BoxP.mk fun g2 w1 hg1 hl1 hl1' hb2 => ?_
  have z1 := hg1.size
  have hb2 : Blk w1 g2 206 [.int .i64 p.vars, ob, rw_, bd, .pointer (some ⟨F.g, 0, none⟩), .int .i64 (more : Nat)] := hb2
  refine AllocP.mk (C := CC) ti37 fun g4 w2 hg2 hl4 hl4' hb4 => ?_
  have z2 := hg2.size
  have hb22 := hb2.grow hg2
  refine px rfl (px rfl (LoadP.fld (o := 0) hb22 ti3 rfl ?_))
  have hE0 := hE
  rw [hvn] at hb22 ⊢
  refine MakeP.mk (C := CC) sl23 ti30 rfl (by decide) (by omega) (by simp only [maxLen]; omega) fun g11 w4 hg4 hl11 hl11' hb11 => ?_
  have z4 := hg4.size
  have hg04 := (hg1.trans hg2).trans hg4
  have hb24 := hb22.grow hg4
  have hb44 := hb4.grow hg4
  have hx0 : VecO true L w.heap.size w4 (.slice (some ⟨g11, 0, none⟩) p.n p.n) (List.replicate p.n 0) := VecO.made hb11 (by omega) (by omega) (by omega)
  refine px rfl (px rfl (LoadP.fld (o := 0) hb24 ti3 rfl (px rfl (cD (fun hcn => ?_) (fun hcn => ?_)))))
  all_goals first
    | (have hcn' : col < p.n := by omega
       refine (q36 (n := 1) (by decide)).mono ?_
       rintro r w6 ⟨hg6, hr⟩
       have hx6 := hx0.grow hg6
       obtain ⟨gx, hgx, hidx⟩ := hx6.idx (k := .i64) (i := col) (by simpa using hcn')
       have egx : gx = g11 := by simpa [Value.ownBlock] using hgx.symm
       rw [egx] at hidx hgx
       refine px hidx (hx6.store (hr.le h1) hgx (by simpa using hcn') fun w7 hm7 hx7 => ?_)
       have hm47 : Md (· = g11) w4 w7 := (Md.grow hg6).trans (hm7.mono fun k hk => by simpa [Value.ownBlock] using hk.symm)
       obtain ⟨x0, hx0e⟩ : ∃ x0, x0 = (List.replicate p.n (0 : Rat)).set col 1 := ⟨_, rfl⟩
       rw [if_pos hcn', ← hx0e]
       have hxl0 : x0.length = p.n := by rw [hx0e]; simp
       have hx7 : VecO true L w.heap.size w7 (.slice (some ⟨g11, 0, none⟩) p.n p.n) x0 := by rw [hx0e]; exact hx7)
    | (have hcn' : ¬ col < p.n := by omega
       rw [if_neg hcn']
       obtain ⟨x0, hx0e⟩ : ∃ x0, x0 = List.replicate p.n (0 : Rat) := ⟨_, rfl⟩
       rw [← hx0e]
       have hxl0 : x0.length = p.n := by rw [hx0e]; simp
       have hx7 : VecO true L w.heap.size w4 (.slice (some ⟨g11, 0, none⟩) p.n p.n) x0 := by rw [hx0e]; exact hx0
       obtain ⟨w7, ew7⟩ : ∃ w7, w7 = w4 := ⟨_, rfl⟩
       rw [← ew7] at hx7
       rw [← ew7]
       have hm47 : Md (· = g11) w4 w7 := by rw [ew7]; exact Md.refl _)
  all_goals (
    obtain ⟨Z, hZ⟩ : ∃ Z, Z = rayFrom p.n col s.m 0 s.b x0 := ⟨_, rfl⟩
    rw [← hZ]
    have hg07 : Grow w w7 := Md.new hg04 hm47 fun k hk => by omega
    have hw7 := hw.grow hg07
    have hb27 := hb24.md hm47 (by omega)
    have z7 := hm47.size
    refine px rfl (LoadP.fld (o := 4) hb27 ti202 rfl (px rfl (px rfl (px rfl (LoadP.fld (o := 2) hw7.blk ti67 rfl (px hw7.basis.len ?_))))))
    refine ⟨fun v' w' => ∃ (i : Nat) (x : List Rat), v' = .int .i64 (i : Nat) ∧ i ≤ s.b.length ∧ Md (· = g11) w4 w' ∧ VecO true L w.heap.size w' (.slice (some ⟨g11, 0, none⟩) p.n p.n) x ∧ x.length = p.n ∧ rayFrom p.n col s.m i (s.b.drop i) x = Z, fun v' _ => s.b.length - (vint v').toNat,
      ⟨0, _, rfl, by omega, hm47, hx7, hxl0, hZ.symm⟩, ?_⟩
    rintro _ - w10 ⟨i, x, rfl, hi, hm10, hx, hxl, hpt⟩
    have z10 := hm10.size
    have hg010 : Grow w w10 := Md.new hg04 hm10 fun k hk => by omega
    have hw10 := hw.grow hg010
    have hb210 := hb24.md hm10 (by omega)
    have hb410 := hb44.md hm10 (by omega)
    refine px rfl (cD (fun hlt => ?_) (fun hge => ?_))
    · have hib : i < s.b.length := by omega
      have him : i < s.m.length := by rw [← hbl]; exact hib
      obtain ⟨gb, hgb, hidb⟩ := hw10.basis.idx (k := .i64) hib
      refine px hidb (hw10.basis.load (C := CC) rfl hgb hib (px rfl (px rfl (LoadP.fld (o := 0) hb210 ti3 rfl (px rfl (cD (fun hkn => ?_) (fun hkn => ?_)))))))
      · have hkn' : s.b.getD i 0 < p.n := by omega
        have hrl : (Spx.rowAt s.m i).length = F.cols := hw10.shape.row _ (rowAt_mem him)
        have hcl' : col < (Spx.rowAt s.m i).length := by omega
        obtain ⟨gm, hgm, hidm⟩ := hw10.mat.idx (k := .i64) him
        refine px rfl (LoadP.fld (o := 4) hb210 ti202 rfl (px rfl (px rfl (px rfl (LoadP.fld (o := 0) hw10.blk ti22 rfl (px hidm (hw10.mat.load (C := CC) rfl hgm him fun ur hur => ?_)))))))
        obtain ⟨ad, had⟩ := hur.idx (k := .i64) hcl'
        refine px had (hur.load had (qat_get hcl') fun re hre => (q151 hre h1 h2).mono ?_)
        rintro r' w17 ⟨hg17, hr'⟩
        have hx17 := hx.grow hg17
        obtain ⟨gx, hgx, hidx⟩ := hx17.idx (k := .i64) (i := s.b.getD i 0) (by omega)
        have egx : gx = g11 := by simpa [Value.ownBlock] using hgx.symm
        refine px hidx (hx17.store hr' hgx (by omega) fun w18 hm18 hx18 => ?_)
        refine pi rfl (by omega) ⟨⟨i + 1, _, by simp, by omega, (hm10.trans (Md.grow hg17)).trans (hm18.mono fun k hk => by simpa [Value.ownBlock] using hk.symm), hx18, by simpa using hxl, ?_⟩, by simp only [vint_int]; omega⟩
        rw [drop_b hib] at hpt
        unfold rayFrom at hpt
        rw [if_pos hkn'] at hpt
        exact hpt
      · have hkn' : ¬ s.b.getD i 0 < p.n := by omega
        refine pi rfl (by omega) ⟨⟨i + 1, x, by simp, by omega, hm10, hx, hxl, ?_⟩, by simp only [vint_int]; omega⟩
        rw [drop_b hib] at hpt
        unfold rayFrom at hpt
        rw [if_neg hkn'] at hpt
        exact hpt
    · have : i = s.b.length := by omega
      subst this
      rw [List.drop_length] at hpt
      have hpt' : x = Z := hpt
      rw [hpt'] at hx hxl
      have hE10 := hE.grow hg010
      rw [hvn] at hE10
      refine LoadP.row (C := CC) (cs := [.int .i64 (p.n : Nat), ob, rw_, bd, .pointer (some ⟨F.g, 0, none⟩), .int .i64 (more : Nat)]) ti206 hb210 rfl ?_
      refine (c190 hE10 hv0 (by omega) h1 h2).mono ?_
      rintro vx w36 ⟨hg36, hpx⟩
      have hb436 := hb410.grow hg36
      have hxl1 := hpx.len
      obtain ⟨xa, xc, rfl⟩ := hxl1
      refine px rfl ?_
      refine StoreP.row (C := CC) (cs := [.int .u8 3, .slice xa (point p.n s).length xc, .slice none 0 0, .slice (some ⟨g11, 0, none⟩) p.n p.n, .slice none 0 0, .int .i64 0]) hb436 ti37 rfl rfl (fun t ht => ?_) fun w37 hu37 hb37 => ?_
      · simp only [List.mem_cons, List.not_mem_nil, or_false] at ht
        rcases ht with rfl | rfl | rfl | rfl | rfl | rfl <;> rfl
      have hm37 : Md (· = g4) w36 w37 := Md.of hu37 hb436 (by decide)
      have z36 := hg36.size
      refine ⟨_, _, rfl, res_row (P := CC.P) ti37 hb37 rfl, Md.new (hg010.trans hg36) hm37 fun k hk => by omega, .slice xa (point p.n s).length xc, _, .slice (some ⟨g11, 0, none⟩) p.n p.n, _, rfl, ?_, Mat.nil, ?_, Vec.nil, by show 0 < _; omega⟩
      · refine ((hpx.vec (by rw [point_length]; omega)).mono (Q := fun k => w.heap.size ≤ k) fun k _ hk => by have := hg010.size; omega).md2 hm37 fun k _ hk c fr he => ?_
        subst hk; unfold Blk at hb436; rw [hb436] at he; cases he
      · refine ((hx.grow hg36).vec (by omega)).md2 hm37 fun k _ hk c fr he => ?_
        subst hk; unfold Blk at hb436; rw [hb436] at he; cases he)
end
end Lx
end Go.Proofs.YtaajkcngcalgoaaGreat
namespace Go.Proofs.YtaajkcngcalgoaaGreat
namespace Lx
open Go Go.Vc Go.Spx
attribute [local irreducible] Tryz.prog
section
variable {c c' d : Bool} {L M K base more n W : Nat} {w w' w'' : World} {v o u a b q fv : Value} {x y z : Rat} {xs ys row : List Rat} {m m' : List (List Rat)} {S P P' Q Q' : Nat → Prop} {cs vs : List Value} {s s' : St} {F : Wf} {g : Goal} {p : Lp} {gs : List Goal}
theorem run_tail {k : Value → World → Prop} {g2 b2 : Nat} {rr : Res} {w11 : World} {old : List Value} (hr : RsV true W (fun k => b2 ≤ k) w11 v rr) (hg2 : g2 < b2) (hb2 : Blk w11 g2 37 old) (hold : old.length = 6) (hw : Wk L base F w11 s)
    (hk : ∀ r' w', Md (fun k => k = g2) w11 w' → RsV true W (fun k => b2 ≤ k) w' r' { rr with pivots := s.n } → k r' w') :
    AllocP CC 37 w11 fun x12 w12 =>
    StoreP CC 37 x12 v w12 fun w13 =>
    ∃ x53, nilV (.pointer (some ⟨F.g, 0, none⟩)) = some x53 ∧
    ∃ x54, fieldAddrV (tyOf tyTab 215) 3 x53 = some x54 ∧
    LoadP CC 3 x54 w13 fun x55 w14 =>
    ∃ x56, fieldAddrV (tyOf tyTab 37) 5 x12 = some x56 ∧
    StoreP CC 3 x56 x55 w14 fun w15 =>
    LoadP CC 37 x12 w15 fun x57 w16 =>
    StoreP CC 37 (.pointer (some ⟨g2, 0, none⟩)) x57 w16 fun w17 =>
    ∃ ad r, (Value.pointer (some ⟨g2, 0, none⟩)) = .pointer (some ad) ∧ (loadVar 37 ad).run CC.P w17 = .ok r w17 ∧ k r w17 := by
  have hr0 : RsV true W (fun k => b2 ≤ k ∧ k < w11.heap.size) w11 v rr := hr.mono fun k hk h => ⟨h, hk⟩
  have hlm := hw.shape.lim
  refine AllocP.mk (C := CC) ti37 fun g12 w12 hg12 hl12 hl12' hb12 => ?_
  have hr1 := hr0.grow hg12
  obtain ⟨x, y, ray, far, rfl, h2, h3, h4, h5, h6⟩ := hr1
  have hone : ∀ {pv : Value}, pv.oneCell' = true → ∀ t ∈ [Value.int .u8 (rr.kind : Nat), x, y, ray, far, pv], t.oneCell' = true := by
    intro pv hp t ht
    simp only [List.mem_cons, List.not_mem_nil, or_false] at ht
    rcases ht with rfl | rfl | rfl | rfl | rfl | rfl
    · rfl
    · exact h2.one
    · exact h3.one
    · exact h4.one
    · exact h5.one
    · exact hp
  refine StoreP.row (C := CC) (cs := [.int .u8 (rr.kind : Nat), x, y, ray, far, .int .i64 (rr.pivots : Nat)]) hb12 ti37 rfl rfl (hone rfl) fun w13 hu13 hb13 => ?_
  have hm13 : Md (fun k => k = g12) w12 w13 := Md.of hu13 hb12 (by decide)
  have hg1113 : Grow w11 w13 := Md.new hg12 hm13 fun k hk => by omega
  have hw13 := hw.grow hg1113
  refine px rfl (px rfl (LoadP.fld (o := 5) hw13.blk ti3 rfl (px rfl ?_)))
  refine StoreP.one (C := CC) (o := 5) ti3 hb13 rfl (by simp) fun w15 hu15 hb15 => ?_
  have hm15 : Md (fun k => k = g12) w13 w15 := Md.of hu15 hb13 (by decide)
  have hb15 : Blk w15 g12 37 [.int .u8 (rr.kind : Nat), x, y, ray, far, .int .i64 (s.n : Nat)] := hb15
  refine LoadP.row (C := CC) ti37 hb15 rfl ?_
  have hg1115 : Grow w11 w15 := Md.new hg1113 hm15 fun k hk => by omega
  have hb215 := hb2.grow hg1115
  refine StoreP.row (C := CC) (cs := [.int .u8 (rr.kind : Nat), x, y, ray, far, .int .i64 (s.n : Nat)]) hb215 ti37 hold rfl (hone rfl) fun w17 hu17 hb17 => ?_
  have hm17 : Md (fun k => k = g2) w15 w17 := Md.of hu17 hb215 (by decide)
  have hmS : Md (fun k => k = g12 ∨ k = g2) w12 w17 := ((hm13.trans hm15).mono fun k hk => .inl hk).trans (hm17.mono fun k hk => .inr hk)
  have hnS : ∀ k, b2 ≤ k ∧ k < w11.heap.size → ¬ (k = g12 ∨ k = g2) := by rintro k ⟨h1, h2⟩ (e | e) <;> omega
  refine ⟨_, _, rfl, res_row (P := CC.P) ti37 hb17 rfl, hk _ _ ((Md.grow hg1115).trans hm17) ?_⟩
  refine RsV.mono (P := fun k => b2 ≤ k ∧ k < w11.heap.size) ?_ fun k _ hk => hk.1
  exact ⟨x, y, ray, far, rfl, h2.md hmS hnS, h3.md hmS hnS hnS, h4.md hmS hnS, h5.md hmS hnS, hlm.2.2⟩
theorem climb_b {L cols : Nat} {g : Goal} : ∀ (f : Nat) (s s' : St) (o : Option Nat), climb L cols g f s = some (s', o) → s'.b.length = s.b.length ∧ ∀ k, o = some k → k < cols
  | 0, s, s', o, h => by simp [climb] at h
  | f + 1, s, s', o, h => by
    unfold climb at h
    split at h
    · simp only [Option.some.injEq, Prod.mk.injEq] at h
      obtain ⟨rfl, rfl⟩ := h
      exact ⟨rfl, fun k hk => by cases hk⟩
    · rename_i k he
      have hk : k < cols := by
        unfold enter at he
        simpa using List.mem_of_find?_eq_some he
      split at h
      · simp only [Option.some.injEq, Prod.mk.injEq] at h
        obtain ⟨rfl, rfl⟩ := h
        exact ⟨rfl, fun k' hk' => by cases hk'; exact hk⟩
      · unfold pivotC at h
        split at h
        · simp only [Option.bind_some] at h
          have := climb_b f _ s' o h
          exact ⟨by rw [this.1]; simp [pivot], this.2⟩
        · cases h
theorem feasible_n {L fuel more : Nat} {bb : Bool} (h : feasible L fuel more s = some (s', bb)) : s'.n ≤ s.n + fuel + s.b.length ∧ s'.m.length = s.m.length := by
  unfold feasible at h
  cases hcb : climb L (more + 1) (artG more) fuel s with
  | none => rw [hcb] at h; cases h
  | some so =>
  obtain ⟨s1, o1⟩ := so
  rw [hcb] at h
  simp only [Option.bind_some, Option.map_eq_some_iff] at h
  obtain ⟨⟨s3, b3⟩, hdr, hfin⟩ := h
  have h1 := climb_n _ _ _ _ hcb
  have h1 : s1.n ≤ s.n + fuel ∧ s1.m.length = s.m.length := by rcases h1 with h | h; exact h; exact h.elim
  have h2 := (climb_b _ _ _ _ hcb).1
  have h3 := drive_n _ _ _ _ _ hdr
  rw [h2] at h3
  simp only at hfin
  split at hfin
  · cases hfin; exact ⟨by show s3.n ≤ _; omega, by show s3.m.length = _; rw [h3.2, h1.2]⟩
  · cases hfin; exact ⟨by omega, by rw [h3.2, h1.2]⟩
theorem c100 {fuel : Nat} {res : Res} (h : LpR true L P w v p) (hv0 : 0 ≤ p.vars) (hbl : p.bounds.length = p.rows.length) (hsz : p.n + p.rows.length + 1 ≤ 1024) (hc : run L fuel p = some res) (h1 : 2 ≤ L) (h2 : 4 * L + 6 ≤ 134217728) (h3 : L + (p.rows.length + 1) * (2 * L + 1) ≤ 268435456) (hf : fuel ≤ 4294967296) (ho : p.objs.length ≤ 1048576) :
    CallP CC 100 [v] w fun r w' => Grow w w' ∧ RsV true (L + p.rows.length * (2 * L + 1)) (fun k => w.heap.size ≤ k) w' r res := by
  have hvn : p.vars = (p.n : Int) := by unfold Lp.n; omega
  obtain ⟨R, hR⟩ : ∃ R, R = p.rows.length := ⟨_, rfl⟩
  obtain ⟨more, hmo⟩ : ∃ k, k = p.n + p.rows.length := ⟨_, rfl⟩
  apply call100
  refine LpAt.box h.old fun g1 w1 hg1 hl1 hl1' hat => ?_
  have z1 := hg1.size
  refine AllocP.mk (C := CC) ti37 fun g2 w2 hg2 hl2 hl2' hb2 => ?_
  have z2 := hg2.size
  have hg02 := hg1.trans hg2
  have hg12 := hg2
  have hat2 := hat.grow hg12
  have zw2 : w2.heap.size ≤ w2.heap.size := by exact Nat.le_refl _
  have zw02 := hg02.size
  obtain ⟨b2, hb2e⟩ : ∃ b, b = w2.heap.size := ⟨_, rfl⟩
  have hgb : g2 < b2 := by omega
  unfold run at hc
  simp only at hc
  cases hbg : begin_ L p with
  | none => rw [hbg] at hc; cases hc
  | some s0 =>
  rw [hbg] at hc
  simp only [Option.bind_some] at hc
  cases hfe : feasible L fuel (p.n + p.rows.length) s0 with
  | none => rw [hfe] at hc; cases hc
  | some y =>
  obtain ⟨s1, bb⟩ := y
  rw [hfe] at hc
  simp only [Option.bind_some] at hc
  refine hat2.load ((c162 (h.grow hg02) hv0 hbl hsz hbg h1 h2).mono ?_)
  rintro _ w4 ⟨hg4, F, rfl, hF, hW⟩
  rw [← hb2e] at hW
  have z4 := hg4.size
  have hin : (init p).m.length = p.rows.length ∧ (init p).n = 0 := ⟨by simp [init], rfl⟩
  have hs0 : s0.m.length = p.rows.length ∧ s0.n ≤ 1 := by
    unfold begin_ at hbg
    simp only at hbg
    split at hbg
    · unfold pivotC at hbg
      split at hbg
      · cases hbg
        exact ⟨by simp [pivot, clearM_eq, hin.1], by show (init p).n + 1 ≤ 1; omega⟩
      · cases hbg
    · cases hbg; exact ⟨hin.1, by omega⟩
  have hat4 := hat2.grow hg4
  obtain ⟨⟨ob, rw_, bd, rfl, hhlp⟩, hblk⟩ := id hat4
  have hlp4 : LpR true L (fun k => k < w.heap.size) w4 (.agg #[.int .i64 p.vars, ob, rw_, bd]) p := hat4.1
  refine px rfl (px rfl (hat4.load (px rfl (AllocP.mk (C := CC) ti206 fun g5 w6 hg6 hl5 hl5' hb5 => ?_))))
  have z6 := hg6.size
  refine StoreP.row (C := CC) (cs := [.int .i64 p.vars, ob, rw_, bd, .pointer (some ⟨F.g, 0, none⟩), .int .i64 ((p.n + p.rows.length : Nat) : Int)]) hb5 ti206 rfl rfl (fun t ht => ?_) fun w7 hu7 hb57 => ?_
  · simp only [List.mem_cons, List.not_mem_nil, or_false] at ht
    rcases ht with rfl | rfl | rfl | rfl | rfl | rfl
    · rfl
    · exact hlp4.objs.one
    · exact hlp4.rws.one
    · exact hlp4.bnds.one
    all_goals rfl
  have hm7 : Md (fun k => k = g5) w6 w7 := Md.of hu7 hb5 (by decide)
  have z7 := hm7.size
  have hg47 : Grow w4 w7 := Md.new hg6 hm7 fun k hk => by omega
  have hWl : ∀ k, WS F k → b2 ≤ k ∧ k < w4.heap.size := fun k hk => hW.lt hk
  have hnWlp : ∀ k, k < w.heap.size → ¬ WS F k := fun k hk h => by have := hWl k h; omega
  have hnW5 : ¬ WS F g5 := fun h => by have := hWl _ h; omega
  have hnW2 : ¬ WS F g2 := fun h => by have := hWl _ h; omega
  have hnW1 : ¬ WS F g1 := fun h => by have := hWl _ h; omega
  have hEnds : ∀ {w' : World} {s : St}, Md (WS F) w7 w' → Wk L b2 F w' s → Ends L b2 (p.n + p.rows.length) (fun k => k < w.heap.size) w' (.agg #[.int .i64 p.vars, ob, rw_, bd, .pointer (some ⟨F.g, 0, none⟩), .int .i64 ((p.n + p.rows.length : Nat) : Int)]) p F s := fun hm hw =>
    ⟨ob, rw_, bd, rfl, (hlp4.grow hg47).md hm hnWlp, hw⟩
  have hLd : ∀ {w' : World} {k : Value → World → Prop}, Md (WS F) w7 w' → k (.agg #[.int .i64 p.vars, ob, rw_, bd, .pointer (some ⟨F.g, 0, none⟩), .int .i64 ((p.n + p.rows.length : Nat) : Int)]) w' → LoadP CC 206 (.pointer (some ⟨g5, 0, none⟩)) w' k := fun hm hk =>
    LoadP.row (C := CC) ti206 (hb57.md hm hnW5) rfl hk
  have h3' : ∀ {s : St}, s.m.length = p.rows.length → L + (s.m.length + 1) * (2 * L + 1) ≤ 268435456 := fun e => by rw [e]; exact h3
  have hb27 := (hb2.grow hg4).grow hg47
  have hfin : ∀ {w' : World}, Md (WS F) w7 w' → Grow w w' := fun hm => Md.new hg02 (((Md.grow hg4).trans (Md.grow hg47)).trans hm) fun k hk => by have := hWl k hk; omega
  refine hLd (Md.refl _) (px rfl ((c164 (hW.grow hg47) (more := p.n + p.rows.length) hF hfe h1 h2 (h3' hs0.1) (by rw [hs0.1]; omega)).mono ?_))
  rintro _ w9 ⟨hm9, hW9, rfl⟩
  have hs1 : s1.m.length = p.rows.length ∧ s1.n ≤ 1 + fuel + p.rows.length := by
    have := feasible_n hfe
    have hb := hW.shape.basis
    exact ⟨by rw [this.2, hs0.1], by omega⟩
  refine px rfl ?_
  cases bb with
  | false =>
    simp only [Bool.false_eq_true, if_false, Option.some.injEq] at hc
    refine cT rfl (hLd hm9 (px rfl (callV.bnd rfl ((c165 (hEnds hm9 hW9) hF rfl hs1.1 hv0 hsz h1 (h3' hs1.1)).mono ?_))))
    rintro r w11 ⟨hg11, hr⟩
    have z11 := hm9.size
    rw [hs1.1] at hr
    refine run_tail (b2 := b2) (hr.mono fun k _ hk => by omega) hgb ((hb27.md hm9 hnW2).grow hg11) rfl (hW9.grow hg11) fun r' w' hm' hr' => ?_
    rw [hc] at hr'
    exact ⟨Md.new (hfin hm9) ((Md.grow hg11).trans hm') fun k hk => by omega, hr'.mono fun k _ hk => by omega⟩
  | true =>
    simp only [if_true, Option.map_eq_some_iff] at hc
    obtain ⟨⟨s2, o2⟩, hcl, hres⟩ := hc
    refine cF rfl ?_
    have hat9 := (hat4.grow hg47).md hm9 hnWlp hnW1
    refine hat9.load ((c166 hat9.1 hv0 (by omega) h1 (by omega) ho).mono ?_)
    rintro v31 w19 ⟨hg19, hG⟩
    have z9 := hm9.size
    have z19 := hg19.size
    have hgl : (goals p).length ≤ 1049600 := by simp [goals]; omega
    have hmul : (goals p).length * fuel ≤ 1049600 * 4294967296 := Nat.mul_le_mul hgl hf
    refine px hG.len ?_
    refine ⟨fun y6 y7 y33 w' => ∃ (i : Nat) (s3 : St), y33 = .int .i64 (i : Nat) ∧ y7 = .int .i64 0 ∧ y6 = .func (.func 163) #[.agg #[.int .i64 p.vars, ob, rw_, bd, .pointer (some ⟨F.g, 0, none⟩), .int .i64 ((p.n + p.rows.length : Nat) : Int)]] #[] ∧ i ≤ (goals p).length ∧ climbs L fuel (p.n + p.rows.length + 1) ((goals p).drop i) s3 = some (s2, o2) ∧ Wk L b2 F w' s3 ∧ s3.m.length = p.rows.length ∧ s3.n ≤ 1 + fuel + p.rows.length + i * fuel ∧ Md (WS F) w19 w',
      fun _ _ y33 _ => (goals p).length - (vint y33).toNat, ⟨0, s1, rfl, rfl, rfl, by omega, by simpa using hcl, hW9.grow hg19, hs1.1, by omega, Md.refl _⟩, ?_⟩
    rintro _ _ _ - w20 ⟨i, s3, rfl, rfl, rfl, hi, hcl3, hW20, hm3, hn3, hm20⟩
    have hGW : ∀ k, w9.heap.size ≤ k → ¬ WS F k := fun k hk h => by have := hWl k h; omega
    have hG20 := hG.md hm20 (fun k hk => hGW k (hG.block k hk).1) hGW
    have hm720 : Md (WS F) w7 w20 := (hm9.trans (Md.grow hg19)).trans hm20
    have hifu : i * fuel ≤ (goals p).length * fuel := Nat.mul_le_mul_right _ hi
    have hif1 : (i + 1) * fuel = i * fuel + fuel := by rw [Nat.add_mul]; omega
    refine px rfl (cD (fun hlt => ?_) (fun hge => ?_))
    · have hil : i < (goals p).length := by omega
      obtain ⟨ad, had⟩ := hG20.idx hil
      refine px had (hG20.load had hil fun fv hfv => ?_)
      refine AllocP.mk (C := CC) ti210 fun g9 w22 hg22 hl9 hl9' hb9 => ?_
      have z22 := hg22.size
      refine StoreP.row (C := CC) (cs := [fv]) hb9 ti210 rfl rfl (by simpa using hfv.one) fun w23 hu23 hb923 => ?_
      have hm23 : Md (fun k => k = g9) w22 w23 := Md.of hu23 hb9 (by decide)
      have hg2023 : Grow w20 w23 := Md.new hg22 hm23 fun k hk => by omega
      refine LoadP.row (C := CC) (cs := [fv]) ti210 hb923 rfl ?_
      rw [List.drop_eq_getElem_cons hil] at hcl3
      unfold climbs at hcl3
      cases hcb : climb L (p.n + p.rows.length + 1) (goals p)[i] fuel s3 with
      | none => rw [hcb] at hcl3; cases hcl3
      | some so =>
      obtain ⟨s4, o4⟩ := so
      rw [hcb] at hcl3
      simp only [Option.bind_some] at hcl3
      have hn4 := climb_n _ _ _ _ hcb
      have hn4 : s4.n ≤ s3.n + fuel ∧ s4.m.length = s3.m.length := by rcases hn4 with h | h; exact h; exact h.elim
      refine (c167 (hW20.grow hg2023) ((hfv.grow hg2023).mono (Q := fun k => w9.heap.size ≤ k ∧ k < w23.heap.size) fun k hk h => ⟨h, hk⟩) (fun k hk => hGW k hk.1) (fun k hk => hk.2) (by rw [hF]; exact hcb) h1 h2 (h3' hm3) (by omega)).mono ?_
      rintro _ w25 ⟨hm25, hW25, rfl⟩
      have hm725 : Md (WS F) w7 w25 := (hm720.trans (Md.grow hg2023)).trans hm25
      refine px rfl (px rfl (px rfl ?_))
      cases o4 with
      | some k =>
        simp only [Option.some.injEq, Prod.mk.injEq] at hcl3
        obtain ⟨rfl, rfl⟩ := hcl3
        refine cT rfl (hLd hm725 (px rfl (callV.bnd rfl ((c168 (col := k) (hEnds hm725 hW25) (by rw [hF]; exact (climb_b _ _ _ _ hcb).2 k rfl) (by omega) hv0 (by omega) h1 (by omega)).mono ?_))))
        rintro r w27 ⟨hg27, hr⟩
        have z725 := hm725.size
        refine run_tail (W := L + p.rows.length * (2 * L + 1)) (b2 := b2) ((hr.le (by omega)).mono fun k _ hk => by omega) hgb ((hb27.md hm725 hnW2).grow hg27) rfl (hW25.grow hg27) fun r' w' hm' hr' => ?_
        simp only at hres
        rw [← hres]
        exact ⟨Md.new (hfin hm725) ((Md.grow hg27).trans hm') fun k hk => by omega, hr'.mono fun k _ hk => by omega⟩
      | none =>
        simp only at hcl3
        refine cF rfl (pi rfl (by omega) ⟨⟨i + 1, s4, by simp, rfl, rfl, by omega, hcl3, hW25, by omega, by omega, (hm20.trans (Md.grow hg2023)).trans hm25⟩, by simp only [vint_int]; omega⟩)
    · have : i = (goals p).length := by omega
      subst this
      rw [List.drop_length] at hcl3
      simp only [climbs, Option.some.injEq, Prod.mk.injEq] at hcl3
      obtain ⟨rfl, rfl⟩ := hcl3
      refine callV.bnd rfl ((c163 (hEnds hm720 hW20) hF hm3 hv0 hsz h1 (h3' hm3) ho).mono ?_)
      rintro r w34 ⟨hg34, hr⟩
      have z720 := hm720.size
      rw [hm3] at hr
      refine run_tail (b2 := b2) (hr.mono fun k _ hk => by omega) hgb ((hb27.md hm720 hnW2).grow hg34) rfl (hW20.grow hg34) fun r' w' hm' hr' => ?_
      simp only at hres
      rw [← hres]
      exact ⟨Md.new (hfin hm720) ((Md.grow hg34).trans hm') fun k hk => by omega, hr'.mono fun k _ hk => by omega⟩
end
end Lx
end Go.Proofs.YtaajkcngcalgoaaGreat
set_option maxRecDepth 100000
set_option linter.unusedVariables false
namespace Go.Proofs.YtaajkcngcalgoaaGreat
open Go Go.Vc
def V112 (a0 a1 : Value) (w : World) (R : Value → World → Prop) : Prop :=
  BoxP CC 69 a0 w fun x2 w_1 =>
  ∃ x8, fieldAddrV (τ 69) 1 x2 = some x8 ∧
  LoadP CC 67 x8 w_1 fun x9 w_2 =>
  ∃ x10, lenV (τ 67) x9 = some x10 ∧
  ∃ (I : Value → World → Prop) (μ : Value → World → Nat), I (.int .i64 0) w_2 ∧
  ∀ y11 : Value, ∀ (h : Nat → Value) (w_3 : World), I y11 w_3 →
    ∃ x12, binV (.int .i64) .lss y11 x10 = some x12 ∧
    CondP x12 (
      ∃ x14, indexAddrV (τ 67) x9 y11 = some x14 ∧
      LoadP CC 3 x14 w_3 fun x15 w_4 =>
      ∃ A24 A25 A32 A33 A34 : Value → World → Prop,
      (Fw Grow w_4 fun z => (Is (lenV (τ 23) a1))) ∧
      (Fw Grow w_4 fun z => (Is (binV (.int .i64) .lss x15 (gd (lenV (τ 23) a1))))) ∧
      (Fw Grow w_4 fun z => ((gd (binV (.int .i64) .lss x15 (gd (lenV (τ 23) a1)))) = .bool true → (Is (indexAddrV (τ 23) a1 x15)))) ∧
      (Fw Grow w_4 fun z => ((gd (binV (.int .i64) .lss x15 (gd (lenV (τ 23) a1)))) = .bool true → (LoadP CC 30 (gd (indexAddrV (τ 23) a1 x15)) z (Gw Grow A24 z)))) ∧
      (∀ v24 : Value, Fw Grow w_4 fun z => ((gd (binV (.int .i64) .lss x15 (gd (lenV (τ 23) a1)))) = .bool true → A24 v24 z) → ((gd (binV (.int .i64) .lss x15 (gd (lenV (τ 23) a1)))) = .bool true → (CallP CC 42 [v24] z (Gw Grow A25 z)))) ∧
      (∀ v24 v25 : Value, Fw Grow w_4 fun z => ((gd (binV (.int .i64) .lss x15 (gd (lenV (τ 23) a1)))) = .bool true → A24 v24 z) → ((gd (binV (.int .i64) .lss x15 (gd (lenV (τ 23) a1)))) = .bool true → A25 v25 z) → ((gd (binV (.int .i64) .lss x15 (gd (lenV (τ 23) a1)))) = .bool true → (Is (binV (.int .i64) .neq v25 (.int .i64 0))))) ∧
      (∀ v24 v25 : Value, Fw Grow w_4 fun z => ((gd (binV (.int .i64) .lss x15 (gd (lenV (τ 23) a1)))) = .bool true → A24 v24 z) → ((gd (binV (.int .i64) .lss x15 (gd (lenV (τ 23) a1)))) = .bool true → A25 v25 z) → (Is (pickV (gd (binV (.int .i64) .lss x15 (gd (lenV (τ 23) a1)))) (gd (binV (.int .i64) .neq v25 (.int .i64 0))) (.bool false)))) ∧
      (∀ v24 v25 : Value, Fw Grow w_4 fun z => ((gd (binV (.int .i64) .lss x15 (gd (lenV (τ 23) a1)))) = .bool true → A24 v24 z) → ((gd (binV (.int .i64) .lss x15 (gd (lenV (τ 23) a1)))) = .bool true → A25 v25 z) → ((gd (pickV (gd (binV (.int .i64) .lss x15 (gd (lenV (τ 23) a1)))) (gd (binV (.int .i64) .neq v25 (.int .i64 0))) (.bool false))) = .bool true → (Is (indexAddrV (τ 23) a1 x15)))) ∧
      (∀ v24 v25 : Value, Fw Grow w_4 fun z => ((gd (binV (.int .i64) .lss x15 (gd (lenV (τ 23) a1)))) = .bool true → A24 v24 z) → ((gd (binV (.int .i64) .lss x15 (gd (lenV (τ 23) a1)))) = .bool true → A25 v25 z) → ((gd (pickV (gd (binV (.int .i64) .lss x15 (gd (lenV (τ 23) a1)))) (gd (binV (.int .i64) .neq v25 (.int .i64 0))) (.bool false))) = .bool true → (LoadP CC 30 (gd (indexAddrV (τ 23) a1 x15)) z (Gw Grow A32 z)))) ∧
      (∀ v24 v25 v32 : Value, Fw Grow w_4 fun z => ((gd (binV (.int .i64) .lss x15 (gd (lenV (τ 23) a1)))) = .bool true → A24 v24 z) → ((gd (binV (.int .i64) .lss x15 (gd (lenV (τ 23) a1)))) = .bool true → A25 v25 z) → ((gd (pickV (gd (binV (.int .i64) .lss x15 (gd (lenV (τ 23) a1)))) (gd (binV (.int .i64) .neq v25 (.int .i64 0))) (.bool false))) = .bool true → (CallP CC 36 [(.int .i64 1)] z (Gw Grow A33 z)))) ∧
      (∀ v24 v25 v32 v33 : Value, Fw Grow w_4 fun z => ((gd (binV (.int .i64) .lss x15 (gd (lenV (τ 23) a1)))) = .bool true → A24 v24 z) → ((gd (binV (.int .i64) .lss x15 (gd (lenV (τ 23) a1)))) = .bool true → A25 v25 z) → ((gd (pickV (gd (binV (.int .i64) .lss x15 (gd (lenV (τ 23) a1)))) (gd (binV (.int .i64) .neq v25 (.int .i64 0))) (.bool false))) = .bool true → A32 v32 z) → ((gd (pickV (gd (binV (.int .i64) .lss x15 (gd (lenV (τ 23) a1)))) (gd (binV (.int .i64) .neq v25 (.int .i64 0))) (.bool false))) = .bool true → A33 v33 z) → ((gd (pickV (gd (binV (.int .i64) .lss x15 (gd (lenV (τ 23) a1)))) (gd (binV (.int .i64) .neq v25 (.int .i64 0))) (.bool false))) = .bool true → (CallP CC 47 [v32, v33] z (Gw Grow A34 z)))) ∧
      (∀ v24 v25 v32 v33 v34 : Value, Fw Grow w_4 fun z => ((gd (binV (.int .i64) .lss x15 (gd (lenV (τ 23) a1)))) = .bool true → A24 v24 z) → ((gd (binV (.int .i64) .lss x15 (gd (lenV (τ 23) a1)))) = .bool true → A25 v25 z) → ((gd (pickV (gd (binV (.int .i64) .lss x15 (gd (lenV (τ 23) a1)))) (gd (binV (.int .i64) .neq v25 (.int .i64 0))) (.bool false))) = .bool true → A32 v32 z) → ((gd (pickV (gd (binV (.int .i64) .lss x15 (gd (lenV (τ 23) a1)))) (gd (binV (.int .i64) .neq v25 (.int .i64 0))) (.bool false))) = .bool true → A33 v33 z) → ((gd (pickV (gd (binV (.int .i64) .lss x15 (gd (lenV (τ 23) a1)))) (gd (binV (.int .i64) .neq v25 (.int .i64 0))) (.bool false))) = .bool true → A34 v34 z) → ((gd (pickV (gd (binV (.int .i64) .lss x15 (gd (lenV (τ 23) a1)))) (gd (binV (.int .i64) .neq v25 (.int .i64 0))) (.bool false))) = .bool true → (Is (unV .not v34)))) ∧
      (∀ v24 v25 v32 v33 v34 : Value, Fw Grow w_4 fun z => ((gd (binV (.int .i64) .lss x15 (gd (lenV (τ 23) a1)))) = .bool true → A24 v24 z) → ((gd (binV (.int .i64) .lss x15 (gd (lenV (τ 23) a1)))) = .bool true → A25 v25 z) → ((gd (pickV (gd (binV (.int .i64) .lss x15 (gd (lenV (τ 23) a1)))) (gd (binV (.int .i64) .neq v25 (.int .i64 0))) (.bool false))) = .bool true → A32 v32 z) → ((gd (pickV (gd (binV (.int .i64) .lss x15 (gd (lenV (τ 23) a1)))) (gd (binV (.int .i64) .neq v25 (.int .i64 0))) (.bool false))) = .bool true → A33 v33 z) → ((gd (pickV (gd (binV (.int .i64) .lss x15 (gd (lenV (τ 23) a1)))) (gd (binV (.int .i64) .neq v25 (.int .i64 0))) (.bool false))) = .bool true → A34 v34 z) → (Is (pickV (gd (pickV (gd (binV (.int .i64) .lss x15 (gd (lenV (τ 23) a1)))) (gd (binV (.int .i64) .neq v25 (.int .i64 0))) (.bool false))) (gd (unV .not v34)) (.bool false)))) ∧
      ∀ v24 v25 v32 v33 v34 : Value, ∀ (h_1 : Nat → Value) (w_5 : World), Grow w_4 w_5 → ((gd (binV (.int .i64) .lss x15 (gd (lenV (τ 23) a1)))) = .bool true → A24 v24 w_5) → ((gd (binV (.int .i64) .lss x15 (gd (lenV (τ 23) a1)))) = .bool true → A25 v25 w_5) → ((gd (pickV (gd (binV (.int .i64) .lss x15 (gd (lenV (τ 23) a1)))) (gd (binV (.int .i64) .neq v25 (.int .i64 0))) (.bool false))) = .bool true → A32 v32 w_5) → ((gd (pickV (gd (binV (.int .i64) .lss x15 (gd (lenV (τ 23) a1)))) (gd (binV (.int .i64) .neq v25 (.int .i64 0))) (.bool false))) = .bool true → A33 v33 w_5) → ((gd (pickV (gd (binV (.int .i64) .lss x15 (gd (lenV (τ 23) a1)))) (gd (binV (.int .i64) .neq v25 (.int .i64 0))) (.bool false))) = .bool true → A34 v34 w_5) → 
      CondP (gd (pickV (gd (pickV (gd (binV (.int .i64) .lss x15 (gd (lenV (τ 23) a1)))) (gd (binV (.int .i64) .neq v25 (.int .i64 0))) (.bool false))) (gd (unV .not v34)) (.bool false))) (
        R (.tuple #[y11, (.bool false)]) w_5) (
        ∃ x38, binV (.int .i64) .add y11 (.int .i64 1) = some x38 ∧
        I x38 w_5 ∧ μ x38 w_5 < μ y11 w_3)) (
      R (.tuple #[(.int .i64 0), (.bool true)]) w_3)
theorem V112_eq (a0 a1 : Value) (w : World) (R : Value → World → Prop) : V112 a0 a1 w R = FnP CC { keep := fun | 2 => [11] | _ => [], lin := fun _ => [] } Tryz.f112 [a0, a1] w R := by kernel_rfl
theorem call112 {a0 a1 : Value} {w : World} {R : Value → World → Prop} (h : V112 a0 a1 w R) : CallP CC 112 [a0, a1] w R :=
  call_of_vc CC.ok _ Tryz.func112 (V112_eq a0 a1 w R ▸ h)
def V174 (a0 : Value) (w : World) (R : Value → World → Prop) : Prop :=
  EqP CC .eql 22 (.tmp 3) (.const (.slice none 0 0)) a0 (.slice none 0 0) w fun x4 w_1 =>
  CondP x4 (
    R (.slice none 0 0) w_1) (
    LitP CC 22 0 [] w_1 fun x5 w_2 =>
    AppendP CC #[22, 22] 22 [x5, a0] w_2 fun x7 w_3 =>
    R x7 w_3)
theorem V174_eq (a0 : Value) (w : World) (R : Value → World → Prop) : V174 a0 w R = FnP CC { keep := fun _ => [], lin := fun _ => [] } Tryz.f174 [a0] w R := by kernel_rfl
theorem call174 {a0 : Value} {w : World} {R : Value → World → Prop} (h : V174 a0 w R) : CallP CC 174 [a0] w R :=
  call_of_vc CC.ok _ Tryz.func174 (V174_eq a0 w R ▸ h)
def V175 (a0 : Value) (w : World) (R : Value → World → Prop) : Prop :=
  EqP CC .eql 23 (.tmp 3) (.const (.slice none 0 0)) a0 (.slice none 0 0) w fun x4 w_1 =>
  CondP x4 (
    R (.slice none 0 0) w_1) (
    LitP CC 23 0 [] w_1 fun x5 w_2 =>
    AppendP CC #[23, 23] 23 [x5, a0] w_2 fun x7 w_3 =>
    R x7 w_3)
theorem V175_eq (a0 : Value) (w : World) (R : Value → World → Prop) : V175 a0 w R = FnP CC { keep := fun _ => [], lin := fun _ => [] } Tryz.f175 [a0] w R := by kernel_rfl
theorem call175 {a0 : Value} {w : World} {R : Value → World → Prop} (h : V175 a0 w R) : CallP CC 175 [a0] w R :=
  call_of_vc CC.ok _ Tryz.func175 (V175_eq a0 w R ▸ h)
def V176 (a0 : Value) (w : World) (R : Value → World → Prop) : Prop :=
  EqP CC .eql 102 (.tmp 3) (.const (.slice none 0 0)) a0 (.slice none 0 0) w fun x4 w_1 =>
  CondP x4 (
    R (.slice none 0 0) w_1) (
    LitP CC 102 0 [] w_1 fun x5 w_2 =>
    AppendP CC #[102, 102] 102 [x5, a0] w_2 fun x7 w_3 =>
    R x7 w_3)
theorem V176_eq (a0 : Value) (w : World) (R : Value → World → Prop) : V176 a0 w R = FnP CC { keep := fun _ => [], lin := fun _ => [] } Tryz.f176 [a0] w R := by kernel_rfl
theorem call176 {a0 : Value} {w : World} {R : Value → World → Prop} (h : V176 a0 w R) : CallP CC 176 [a0] w R :=
  call_of_vc CC.ok _ Tryz.func176 (V176_eq a0 w R ▸ h)
def V54 (a0 : Value) (w : World) (R : Value → World → Prop) : Prop :=
  BoxP CC 69 a0 w fun x1 w_1 =>
  ∃ x5, fieldAddrV (τ 69) 0 x1 = some x5 ∧
  LoadP CC 25 x5 w_1 fun x6 w_2 =>
  CallP CC 77 [x6] w_2 fun x7 w_3 =>
  ∃ x8, unV .not x7 = some x8 ∧
  CondP x8 (
    ∃ x14, pickV x8 (.bool true) undef = some x14 ∧
    CondP x14 (
      R (.bool false) w_3) (
      ∃ x15, fieldAddrV (τ 69) 1 x1 = some x15 ∧
      LoadP CC 67 x15 w_3 fun x16 w_4 =>
      ∃ x17, lenV (τ 67) x16 = some x17 ∧
      ∃ (I : Value → World → Prop) (μ : Value → World → Nat), I (.int .i64 0) w_4 ∧
      ∀ y18 : Value, ∀ (h : Nat → Value) (w_5 : World), I y18 w_5 →
        ∃ x19, binV (.int .i64) .lss y18 x17 = some x19 ∧
        CondP x19 (
          ∃ x21, indexAddrV (τ 67) x16 y18 = some x21 ∧
          LoadP CC 3 x21 w_5 fun x22 w_6 =>
          ∃ x24, binV (.int .i64) .lss x22 (.int .i64 0) = some x24 ∧
          CondP x24 (
            ∃ x31, pickV x24 (.bool true) undef = some x31 ∧
            CondP x31 (
              CondP undef (
                ∃ x37, fieldAddrV (τ 69) 1 x1 = some x37 ∧
                LoadP CC 67 x37 w_6 fun x38 w_7 =>
                ∃ x40, binV (.int .i64) .sub y18 (.int .i64 1) = some x40 ∧
                ∃ x41, indexAddrV (τ 67) x38 x40 = some x41 ∧
                LoadP CC 3 x41 w_7 fun x42 w_8 =>
                ∃ x43, binV (.int .i64) .leq x22 x42 = some x43 ∧
                ∃ x45, pickV x31 (.bool true) undef = some x45 ∧
                CondP x45 (
                  R (.bool false) w_8) (
                  ∃ x46, binV (.int .i64) .add y18 (.int .i64 1) = some x46 ∧
                  I x46 w_8 ∧ μ x46 w_8 < μ y18 w_5)) (
                ∃ x45_1, pickV x31 (.bool true) undef = some x45_1 ∧
                CondP x45_1 (
                  R (.bool false) w_6) (
                  ∃ x46_1, binV (.int .i64) .add y18 (.int .i64 1) = some x46_1 ∧
                  I x46_1 w_6 ∧ μ x46_1 w_6 < μ y18 w_5))) (
              ∃ x34, binV (.int .i64) .gtr y18 (.int .i64 0) = some x34 ∧
              CondP x34 (
                ∃ x37_1, fieldAddrV (τ 69) 1 x1 = some x37_1 ∧
                LoadP CC 67 x37_1 w_6 fun x38_1 w_9 =>
                ∃ x40_1, binV (.int .i64) .sub y18 (.int .i64 1) = some x40_1 ∧
                ∃ x41_1, indexAddrV (τ 67) x38_1 x40_1 = some x41_1 ∧
                LoadP CC 3 x41_1 w_9 fun x42_1 w_10 =>
                ∃ x43_1, binV (.int .i64) .leq x22 x42_1 = some x43_1 ∧
                ∃ x44, pickV x34 x43_1 (.bool false) = some x44 ∧
                ∃ x45_2, pickV x31 (.bool true) x44 = some x45_2 ∧
                CondP x45_2 (
                  R (.bool false) w_10) (
                  ∃ x46_2, binV (.int .i64) .add y18 (.int .i64 1) = some x46_2 ∧
                  I x46_2 w_10 ∧ μ x46_2 w_10 < μ y18 w_5)) (
                ∃ x44_1, pickV x34 undef (.bool false) = some x44_1 ∧
                ∃ x45_3, pickV x31 (.bool true) x44_1 = some x45_3 ∧
                CondP x45_3 (
                  R (.bool false) w_6) (
                  ∃ x46_3, binV (.int .i64) .add y18 (.int .i64 1) = some x46_3 ∧
                  I x46_3 w_6 ∧ μ x46_3 w_6 < μ y18 w_5)))) (
            ∃ x27, fieldAddrV (τ 69) 0 x1 = some x27 ∧
            ∃ x28, fieldAddrV (τ 25) 0 x27 = some x28 ∧
            LoadP CC 3 x28 w_6 fun x29 w_11 =>
            ∃ x30, binV (.int .i64) .geq x22 x29 = some x30 ∧
            ∃ x31_1, pickV x24 (.bool true) x30 = some x31_1 ∧
            CondP x31_1 (
              CondP undef (
                ∃ x37_2, fieldAddrV (τ 69) 1 x1 = some x37_2 ∧
                LoadP CC 67 x37_2 w_11 fun x38_2 w_12 =>
                ∃ x40_2, binV (.int .i64) .sub y18 (.int .i64 1) = some x40_2 ∧
                ∃ x41_2, indexAddrV (τ 67) x38_2 x40_2 = some x41_2 ∧
                LoadP CC 3 x41_2 w_12 fun x42_2 w_13 =>
                ∃ x43_2, binV (.int .i64) .leq x22 x42_2 = some x43_2 ∧
                ∃ x45_4, pickV x31_1 (.bool true) undef = some x45_4 ∧
                CondP x45_4 (
                  R (.bool false) w_13) (
                  ∃ x46_4, binV (.int .i64) .add y18 (.int .i64 1) = some x46_4 ∧
                  I x46_4 w_13 ∧ μ x46_4 w_13 < μ y18 w_5)) (
                ∃ x45_5, pickV x31_1 (.bool true) undef = some x45_5 ∧
                CondP x45_5 (
                  R (.bool false) w_11) (
                  ∃ x46_5, binV (.int .i64) .add y18 (.int .i64 1) = some x46_5 ∧
                  I x46_5 w_11 ∧ μ x46_5 w_11 < μ y18 w_5))) (
              ∃ x34_1, binV (.int .i64) .gtr y18 (.int .i64 0) = some x34_1 ∧
              CondP x34_1 (
                ∃ x37_3, fieldAddrV (τ 69) 1 x1 = some x37_3 ∧
                LoadP CC 67 x37_3 w_11 fun x38_3 w_14 =>
                ∃ x40_3, binV (.int .i64) .sub y18 (.int .i64 1) = some x40_3 ∧
                ∃ x41_3, indexAddrV (τ 67) x38_3 x40_3 = some x41_3 ∧
                LoadP CC 3 x41_3 w_14 fun x42_3 w_15 =>
                ∃ x43_3, binV (.int .i64) .leq x22 x42_3 = some x43_3 ∧
                ∃ x44_2, pickV x34_1 x43_3 (.bool false) = some x44_2 ∧
                ∃ x45_6, pickV x31_1 (.bool true) x44_2 = some x45_6 ∧
                CondP x45_6 (
                  R (.bool false) w_15) (
                  ∃ x46_6, binV (.int .i64) .add y18 (.int .i64 1) = some x46_6 ∧
                  I x46_6 w_15 ∧ μ x46_6 w_15 < μ y18 w_5)) (
                ∃ x44_3, pickV x34_1 undef (.bool false) = some x44_3 ∧
                ∃ x45_7, pickV x31_1 (.bool true) x44_3 = some x45_7 ∧
                CondP x45_7 (
                  R (.bool false) w_11) (
                  ∃ x46_7, binV (.int .i64) .add y18 (.int .i64 1) = some x46_7 ∧
                  I x46_7 w_11 ∧ μ x46_7 w_11 < μ y18 w_5))))) (
          R (.bool true) w_5))) (
    ∃ x10, fieldAddrV (τ 69) 1 x1 = some x10 ∧
    LoadP CC 67 x10 w_3 fun x11 w_16 =>
    ∃ x12, lenV (τ 67) x11 = some x12 ∧
    ∃ x13, binV (.int .i64) .gtr x12 (.int .i64 12) = some x13 ∧
    ∃ x14_1, pickV x8 (.bool true) x13 = some x14_1 ∧
    CondP x14_1 (
      R (.bool false) w_16) (
      ∃ x15_1, fieldAddrV (τ 69) 1 x1 = some x15_1 ∧
      LoadP CC 67 x15_1 w_16 fun x16_1 w_17 =>
      ∃ x17_1, lenV (τ 67) x16_1 = some x17_1 ∧
      ∃ (I_1 : Value → World → Prop) (μ_1 : Value → World → Nat), I_1 (.int .i64 0) w_17 ∧
      ∀ y18_1 : Value, ∀ (h_1 : Nat → Value) (w_18 : World), I_1 y18_1 w_18 →
        ∃ x19_1, binV (.int .i64) .lss y18_1 x17_1 = some x19_1 ∧
        CondP x19_1 (
          ∃ x21_1, indexAddrV (τ 67) x16_1 y18_1 = some x21_1 ∧
          LoadP CC 3 x21_1 w_18 fun x22_1 w_19 =>
          ∃ x24_1, binV (.int .i64) .lss x22_1 (.int .i64 0) = some x24_1 ∧
          CondP x24_1 (
            ∃ x31_2, pickV x24_1 (.bool true) undef = some x31_2 ∧
            CondP x31_2 (
              CondP undef (
                ∃ x37_4, fieldAddrV (τ 69) 1 x1 = some x37_4 ∧
                LoadP CC 67 x37_4 w_19 fun x38_4 w_20 =>
                ∃ x40_4, binV (.int .i64) .sub y18_1 (.int .i64 1) = some x40_4 ∧
                ∃ x41_4, indexAddrV (τ 67) x38_4 x40_4 = some x41_4 ∧
                LoadP CC 3 x41_4 w_20 fun x42_4 w_21 =>
                ∃ x43_4, binV (.int .i64) .leq x22_1 x42_4 = some x43_4 ∧
                ∃ x45_8, pickV x31_2 (.bool true) undef = some x45_8 ∧
                CondP x45_8 (
                  R (.bool false) w_21) (
                  ∃ x46_8, binV (.int .i64) .add y18_1 (.int .i64 1) = some x46_8 ∧
                  I_1 x46_8 w_21 ∧ μ_1 x46_8 w_21 < μ_1 y18_1 w_18)) (
                ∃ x45_9, pickV x31_2 (.bool true) undef = some x45_9 ∧
                CondP x45_9 (
                  R (.bool false) w_19) (
                  ∃ x46_9, binV (.int .i64) .add y18_1 (.int .i64 1) = some x46_9 ∧
                  I_1 x46_9 w_19 ∧ μ_1 x46_9 w_19 < μ_1 y18_1 w_18))) (
              ∃ x34_2, binV (.int .i64) .gtr y18_1 (.int .i64 0) = some x34_2 ∧
              CondP x34_2 (
                ∃ x37_5, fieldAddrV (τ 69) 1 x1 = some x37_5 ∧
                LoadP CC 67 x37_5 w_19 fun x38_5 w_22 =>
                ∃ x40_5, binV (.int .i64) .sub y18_1 (.int .i64 1) = some x40_5 ∧
                ∃ x41_5, indexAddrV (τ 67) x38_5 x40_5 = some x41_5 ∧
                LoadP CC 3 x41_5 w_22 fun x42_5 w_23 =>
                ∃ x43_5, binV (.int .i64) .leq x22_1 x42_5 = some x43_5 ∧
                ∃ x44_4, pickV x34_2 x43_5 (.bool false) = some x44_4 ∧
                ∃ x45_10, pickV x31_2 (.bool true) x44_4 = some x45_10 ∧
                CondP x45_10 (
                  R (.bool false) w_23) (
                  ∃ x46_10, binV (.int .i64) .add y18_1 (.int .i64 1) = some x46_10 ∧
                  I_1 x46_10 w_23 ∧ μ_1 x46_10 w_23 < μ_1 y18_1 w_18)) (
                ∃ x44_5, pickV x34_2 undef (.bool false) = some x44_5 ∧
                ∃ x45_11, pickV x31_2 (.bool true) x44_5 = some x45_11 ∧
                CondP x45_11 (
                  R (.bool false) w_19) (
                  ∃ x46_11, binV (.int .i64) .add y18_1 (.int .i64 1) = some x46_11 ∧
                  I_1 x46_11 w_19 ∧ μ_1 x46_11 w_19 < μ_1 y18_1 w_18)))) (
            ∃ x27_1, fieldAddrV (τ 69) 0 x1 = some x27_1 ∧
            ∃ x28_1, fieldAddrV (τ 25) 0 x27_1 = some x28_1 ∧
            LoadP CC 3 x28_1 w_19 fun x29_1 w_24 =>
            ∃ x30_1, binV (.int .i64) .geq x22_1 x29_1 = some x30_1 ∧
            ∃ x31_3, pickV x24_1 (.bool true) x30_1 = some x31_3 ∧
            CondP x31_3 (
              CondP undef (
                ∃ x37_6, fieldAddrV (τ 69) 1 x1 = some x37_6 ∧
                LoadP CC 67 x37_6 w_24 fun x38_6 w_25 =>
                ∃ x40_6, binV (.int .i64) .sub y18_1 (.int .i64 1) = some x40_6 ∧
                ∃ x41_6, indexAddrV (τ 67) x38_6 x40_6 = some x41_6 ∧
                LoadP CC 3 x41_6 w_25 fun x42_6 w_26 =>
                ∃ x43_6, binV (.int .i64) .leq x22_1 x42_6 = some x43_6 ∧
                ∃ x45_12, pickV x31_3 (.bool true) undef = some x45_12 ∧
                CondP x45_12 (
                  R (.bool false) w_26) (
                  ∃ x46_12, binV (.int .i64) .add y18_1 (.int .i64 1) = some x46_12 ∧
                  I_1 x46_12 w_26 ∧ μ_1 x46_12 w_26 < μ_1 y18_1 w_18)) (
                ∃ x45_13, pickV x31_3 (.bool true) undef = some x45_13 ∧
                CondP x45_13 (
                  R (.bool false) w_24) (
                  ∃ x46_13, binV (.int .i64) .add y18_1 (.int .i64 1) = some x46_13 ∧
                  I_1 x46_13 w_24 ∧ μ_1 x46_13 w_24 < μ_1 y18_1 w_18))) (
              ∃ x34_3, binV (.int .i64) .gtr y18_1 (.int .i64 0) = some x34_3 ∧
              CondP x34_3 (
                ∃ x37_7, fieldAddrV (τ 69) 1 x1 = some x37_7 ∧
                LoadP CC 67 x37_7 w_24 fun x38_7 w_27 =>
                ∃ x40_7, binV (.int .i64) .sub y18_1 (.int .i64 1) = some x40_7 ∧
                ∃ x41_7, indexAddrV (τ 67) x38_7 x40_7 = some x41_7 ∧
                LoadP CC 3 x41_7 w_27 fun x42_7 w_28 =>
                ∃ x43_7, binV (.int .i64) .leq x22_1 x42_7 = some x43_7 ∧
                ∃ x44_6, pickV x34_3 x43_7 (.bool false) = some x44_6 ∧
                ∃ x45_14, pickV x31_3 (.bool true) x44_6 = some x45_14 ∧
                CondP x45_14 (
                  R (.bool false) w_28) (
                  ∃ x46_14, binV (.int .i64) .add y18_1 (.int .i64 1) = some x46_14 ∧
                  I_1 x46_14 w_28 ∧ μ_1 x46_14 w_28 < μ_1 y18_1 w_18)) (
                ∃ x44_7, pickV x34_3 undef (.bool false) = some x44_7 ∧
                ∃ x45_15, pickV x31_3 (.bool true) x44_7 = some x45_15 ∧
                CondP x45_15 (
                  R (.bool false) w_24) (
                  ∃ x46_15, binV (.int .i64) .add y18_1 (.int .i64 1) = some x46_15 ∧
                  I_1 x46_15 w_24 ∧ μ_1 x46_15 w_24 < μ_1 y18_1 w_18))))) (
          R (.bool true) w_18)))
theorem V54_eq (a0 : Value) (w : World) (R : Value → World → Prop) : V54 a0 w R = FnP CC { keep := fun | 4 => [18] | _ => [], lin := fun | 1 => [1000000] | 6 => [1000000] | _ => [] } Tryz.f54 [a0] w R := by kernel_rfl
theorem call54 {a0 : Value} {w : World} {R : Value → World → Prop} (h : V54 a0 w R) : CallP CC 54 [a0] w R :=
  call_of_vc CC.ok _ Tryz.func54 (V54_eq a0 w R ▸ h)
def V110 (a0 a1 : Value) (w : World) (R : Value → World → Prop) : Prop :=
  BoxP CC 154 a0 w fun x2 w_1 =>
  BoxP CC 69 a1 w_1 fun x3 w_2 =>
  AllocP CC 25 w_2 fun x4 w_3 =>
  ∃ (T : Nat × World → Nat × World → Prop) (L : List Value → World → Prop), Hg T ∧ Ht T ∧ Hl L w_3 ∧
  ∃ A11 A14 A17 A18 A21 A22 A5 As16 : Value → Nat × World → Prop,
  (Fl T w_3 0 fun n z => (Is (fieldAddrV (τ 69) 0 x3))) ∧
  (Fl T w_3 0 fun n z => (Is (fieldAddrV (τ 25) 0 (gd (fieldAddrV (τ 69) 0 x3))))) ∧
  (Fl T w_3 0 fun n z => (LoadP CC 3 (gd (fieldAddrV (τ 25) 0 (gd (fieldAddrV (τ 69) 0 x3)))) z (Gk T A11 n z))) ∧
  (∀ v11 : Value, Fl T w_3 0 fun n z => (Is (fieldAddrV (τ 69) 0 x3))) ∧
  (∀ v11 : Value, Fl T w_3 0 fun n z => (Is (fieldAddrV (τ 25) 1 (gd (fieldAddrV (τ 69) 0 x3))))) ∧
  (∀ v11 : Value, Fl T w_3 0 fun n z => (LoadP CC 22 (gd (fieldAddrV (τ 25) 1 (gd (fieldAddrV (τ 69) 0 x3)))) z (Gk T A14 n z))) ∧
  (∀ v11 v14 : Value, Fl T w_3 0 fun n z => (Is (fieldAddrV (τ 69) 0 x3))) ∧
  (∀ v11 v14 : Value, Fl T w_3 0 fun n z => (Is (fieldAddrV (τ 25) 2 (gd (fieldAddrV (τ 69) 0 x3))))) ∧
  (∀ v11 v14 : Value, Fl T w_3 0 fun n z => (LoadP CC 22 (gd (fieldAddrV (τ 25) 2 (gd (fieldAddrV (τ 69) 0 x3)))) z (Gk T A17 n z))) ∧
  (∀ v11 v14 v17 : Value, Fl T w_3 0 fun n z => A17 v17 (n, z) → (CallP CC 174 [v17] z (Gk T A18 n z))) ∧
  (∀ v11 v14 v17 v18 : Value, Fl T w_3 0 fun n z => (Is (fieldAddrV (τ 69) 0 x3))) ∧
  (∀ v11 v14 v17 v18 : Value, Fl T w_3 0 fun n z => (Is (fieldAddrV (τ 25) 3 (gd (fieldAddrV (τ 69) 0 x3))))) ∧
  (∀ v11 v14 v17 v18 : Value, Fl T w_3 0 fun n z => (LoadP CC 23 (gd (fieldAddrV (τ 25) 3 (gd (fieldAddrV (τ 69) 0 x3)))) z (Gk T A21 n z))) ∧
  (∀ v11 v14 v17 v18 v21 : Value, Fl T w_3 0 fun n z => A17 v17 (n, z) → A18 v18 (n, z) → A21 v21 (n, z) → (CallP CC 175 [v21] z (Gk T A22 n z))) ∧
  (∀ v11 v14 v17 v18 v21 v22 : Value, Fl T w_3 0 fun n z => A11 v11 (n, z) → A14 v14 (n, z) → A17 v17 (n, z) → A18 v18 (n, z) → A21 v21 (n, z) → A22 v22 (n, z) → (Is (buildV (τ 25) [(0, v11), (1, v14), (2, v18), (3, v22)]))) ∧
  (∀ v11 v14 v17 v18 v21 v22 : Value, Fl T w_3 0 fun n z => (AllocP CC 25 z (Gk T A5 n z))) ∧
  (∀ v11 v14 v17 v18 v21 v22 v5 : Value, Fl T w_3 1 fun n z => n = 0 → L [] z → A11 v11 (n, z) → A14 v14 (n, z) → A17 v17 (n, z) → A18 v18 (n, z) → A21 v21 (n, z) → A22 v22 (n, z) → A5 v5 (n, z) → StoreP CC 25 v5 (gd (buildV (τ 25) [(0, v11), (1, v14), (2, v18), (3, v22)])) z fun y => Gl T L As16 n z [v5] undef y) ∧
  ∀ v11 v14 v17 v18 v21 v22 v5 vs16 : Value, ∀ (h : Nat → Value) (w_4 : World), T (0, w_3) (1, w_4) → A11 v11 (1, w_4) → A14 v14 (1, w_4) → A17 v17 (1, w_4) → A18 v18 (1, w_4) → A21 v21 (1, w_4) → A22 v22 (1, w_4) → A5 v5 (1, w_4) → As16 vs16 (1, w_4) → L [v5] w_4 → 
  ∃ x24, fieldAddrV (τ 69) 1 x3 = some x24 ∧
  LoadP CC 67 x24 w_4 fun x25 w_5 =>
  ∃ x26, lenV (τ 67) x25 = some x26 ∧
  ∃ (I : Value → World → Prop) (μ : Value → World → Nat), I (.int .i64 0) w_5 ∧
  ∀ y27 : Value, ∀ (h_1 : Nat → Value) (w_6 : World), I y27 w_6 →
    ∃ x28, binV (.int .i64) .lss y27 x26 = some x28 ∧
    CondP x28 (
      ∃ x30, indexAddrV (τ 67) x25 y27 = some x30 ∧
      LoadP CC 3 x30 w_6 fun x31 w_7 =>
      ∃ x32, fieldAddrV (τ 69) 0 x3 = some x32 ∧
      ∃ x33, fieldAddrV (τ 25) 0 x32 = some x33 ∧
      LoadP CC 3 x33 w_7 fun x34 w_8 =>
      CallP CC 52 [x34, x31] w_8 fun x36 w_9 =>
      ∃ (T_1 : Nat × World → Nat × World → Prop) (L_1 : List Value → World → Prop), Hg T_1 ∧ Ht T_1 ∧ Hl L_1 w_9 ∧
      ∃ A38 A40 A41 A43 A46 A49 A50 A51 A52 As17 As19 : Value → Nat × World → Prop,
      (Fl T_1 w_9 0 fun n z => (Is (fieldAddrV (τ 25) 2 v5))) ∧
      (Fl T_1 w_9 0 fun n z => (LoadP CC 22 (gd (fieldAddrV (τ 25) 2 v5)) z (Gk T_1 A38 n z))) ∧
      (∀ v38 : Value, Fl T_1 w_9 0 fun n z => (LitP CC 22 1 [(0, x36)] z (Gk T_1 A40 n z))) ∧
      (∀ v38 v40 : Value, Fl T_1 w_9 1 fun n z => n = 0 → L_1 [] z → A38 v38 (n, z) → A40 v40 (n, z) → AppendP CC #[22, 22] 22 [v38, v40] z fun x y => Gl T_1 L_1 A41 n z [x] x y) ∧
      (∀ v38 v40 v41 : Value, Fl T_1 w_9 1 fun n z => (Is (fieldAddrV (τ 25) 3 v5))) ∧
      (∀ v38 v40 v41 : Value, Fl T_1 w_9 1 fun n z => (LoadP CC 23 (gd (fieldAddrV (τ 25) 3 v5)) z (Gk T_1 A43 n z))) ∧
      (∀ v38 v40 v41 v43 : Value, Fl T_1 w_9 1 fun n z => (Is (fieldAddrV (τ 154) 0 x2))) ∧
      (∀ v38 v40 v41 v43 : Value, Fl T_1 w_9 1 fun n z => (Is (fieldAddrV (τ 152) 1 (gd (fieldAddrV (τ 154) 0 x2))))) ∧
      (∀ v38 v40 v41 v43 : Value, Fl T_1 w_9 1 fun n z => (LoadP CC 102 (gd (fieldAddrV (τ 152) 1 (gd (fieldAddrV (τ 154) 0 x2)))) z (Gk T_1 A46 n z))) ∧
      (∀ v38 v40 v41 v43 v46 : Value, Fl T_1 w_9 1 fun n z => A46 v46 (n, z) → (Is (indexAddrV (τ 102) v46 y27))) ∧
      (∀ v38 v40 v41 v43 v46 : Value, Fl T_1 w_9 1 fun n z => A46 v46 (n, z) → (LoadP CC 2 (gd (indexAddrV (τ 102) v46 y27)) z (Gk T_1 A49 n z))) ∧
      (∀ v38 v40 v41 v43 v46 v49 : Value, Fl T_1 w_9 1 fun n z => A38 v38 (n, z) → A40 v40 (n, z) → A41 v41 (n, z) → A46 v46 (n, z) → A49 v49 (n, z) → (CallP CC 36 [v49] z (Gk T_1 A50 n z))) ∧
      (∀ v38 v40 v41 v43 v46 v49 v50 : Value, Fl T_1 w_9 1 fun n z => A38 v38 (n, z) → A40 v40 (n, z) → A41 v41 (n, z) → A46 v46 (n, z) → A49 v49 (n, z) → A50 v50 (n, z) → (LitP CC 23 1 [(0, v50)] z (Gk T_1 A51 n z))) ∧
      (∀ v38 v40 v41 v43 v46 v49 v50 v51 : Value, Fl T_1 w_9 2 fun n z => n = 1 → L_1 [v41] z → blkOf v40 ≠ blkOf v51 → A38 v38 (n, z) → A40 v40 (n, z) → A41 v41 (n, z) → A43 v43 (n, z) → A46 v46 (n, z) → A49 v49 (n, z) → A50 v50 (n, z) → A51 v51 (n, z) → AppendP CC #[23, 23] 23 [v43, v51] z fun x y => Gl T_1 L_1 A52 n z [v41, x] x y) ∧
      (∀ v38 v40 v41 v43 v46 v49 v50 v51 v52 : Value, Fl T_1 w_9 2 fun n z => A38 v38 (n, z) → A40 v40 (n, z) → A41 v41 (n, z) → A43 v43 (n, z) → (Is (fieldAddrV (τ 25) 2 v5))) ∧
      (∀ v38 v40 v41 v43 v46 v49 v50 v51 v52 : Value, Fl T_1 w_9 3 fun n z => n = 2 → L_1 [v41, v52] z → blkOf v40 ≠ blkOf v51 → A38 v38 (n, z) → A40 v40 (n, z) → A41 v41 (n, z) → A43 v43 (n, z) → A46 v46 (n, z) → A49 v49 (n, z) → A50 v50 (n, z) → A51 v51 (n, z) → A52 v52 (n, z) → StoreP CC 22 (gd (fieldAddrV (τ 25) 2 v5)) v41 z fun y => Gl T_1 L_1 As17 n z [v41, v52, (gd (fieldAddrV (τ 25) 2 v5))] undef y) ∧
      (∀ v38 v40 v41 v43 v46 v49 v50 v51 v52 vs17 : Value, Fl T_1 w_9 3 fun n z => blkOf v40 ≠ blkOf v51 → A38 v38 (n, z) → A40 v40 (n, z) → A41 v41 (n, z) → A43 v43 (n, z) → A46 v46 (n, z) → A49 v49 (n, z) → A50 v50 (n, z) → A51 v51 (n, z) → A52 v52 (n, z) → As17 vs17 (n, z) → (Is (fieldAddrV (τ 25) 3 v5))) ∧
      (∀ v38 v40 v41 v43 v46 v49 v50 v51 v52 vs17 : Value, Fl T_1 w_9 4 fun n z => n = 3 → L_1 [v41, v52, (gd (fieldAddrV (τ 25) 2 v5))] z → blkOf v40 ≠ blkOf v51 → A38 v38 (n, z) → A40 v40 (n, z) → A41 v41 (n, z) → A43 v43 (n, z) → A46 v46 (n, z) → A49 v49 (n, z) → A50 v50 (n, z) → A51 v51 (n, z) → A52 v52 (n, z) → As17 vs17 (n, z) → StoreP CC 23 (gd (fieldAddrV (τ 25) 3 v5)) v52 z fun y => Gl T_1 L_1 As19 n z [v41, v52, (gd (fieldAddrV (τ 25) 2 v5)), (gd (fieldAddrV (τ 25) 3 v5))] undef y) ∧
      ∀ v38 v40 v41 v43 v46 v49 v50 v51 v52 vs17 vs19 : Value, ∀ (h_2 : Nat → Value) (w_10 : World), T_1 (0, w_9) (4, w_10) → blkOf v40 ≠ blkOf v51 → A38 v38 (4, w_10) → A40 v40 (4, w_10) → A41 v41 (4, w_10) → A43 v43 (4, w_10) → A46 v46 (4, w_10) → A49 v49 (4, w_10) → A50 v50 (4, w_10) → A51 v51 (4, w_10) → A52 v52 (4, w_10) → As17 vs17 (4, w_10) → As19 vs19 (4, w_10) → L_1 [v41, v52, (gd (fieldAddrV (τ 25) 2 v5)), (gd (fieldAddrV (τ 25) 3 v5))] w_10 → 
      ∃ x55, fieldAddrV (τ 154) 0 x2 = some x55 ∧
      ∃ x56, fieldAddrV (τ 152) 0 x55 = some x56 ∧
      LoadP CC 102 x56 w_10 fun x57 w_11 =>
      ∃ x59, indexAddrV (τ 102) x57 y27 = some x59 ∧
      LoadP CC 2 x59 w_11 fun x60 w_12 =>
      ∃ x61, binV (.int .i64) .gtr x60 (.int .i64 0) = some x61 ∧
      CondP x61 (
        ∃ (T_2 : Nat × World → Nat × World → Prop) (L_2 : List Value → World → Prop), Hg T_2 ∧ Ht T_2 ∧ Hl L_2 w_12 ∧
        ∃ A63 A64 A66 A67 A68 A70 A73 A76 A78 A79 A80 As20 As22 : Value → Nat × World → Prop,
        (Fl T_2 w_12 0 fun n z => (Is (fieldAddrV (τ 25) 2 v5))) ∧
        (Fl T_2 w_12 0 fun n z => (LoadP CC 22 (gd (fieldAddrV (τ 25) 2 v5)) z (Gk T_2 A63 n z))) ∧
        (∀ v63 : Value, Fl T_2 w_12 0 fun n z => (CallP CC 36 [(.int .i64 (-1))] z (Gk T_2 A64 n z))) ∧
        (∀ v63 v64 : Value, Fl T_2 w_12 0 fun n z => A64 v64 (n, z) → (CallP CC 104 [v64, x36] z (Gk T_2 A66 n z))) ∧
        (∀ v63 v64 v66 : Value, Fl T_2 w_12 0 fun n z => A64 v64 (n, z) → A66 v66 (n, z) → (LitP CC 22 1 [(0, v66)] z (Gk T_2 A67 n z))) ∧
        (∀ v63 v64 v66 v67 : Value, Fl T_2 w_12 1 fun n z => n = 0 → L_2 [] z → A63 v63 (n, z) → A64 v64 (n, z) → A66 v66 (n, z) → A67 v67 (n, z) → AppendP CC #[22, 22] 22 [v63, v67] z fun x y => Gl T_2 L_2 A68 n z [x] x y) ∧
        (∀ v63 v64 v66 v67 v68 : Value, Fl T_2 w_12 1 fun n z => (Is (fieldAddrV (τ 25) 3 v5))) ∧
        (∀ v63 v64 v66 v67 v68 : Value, Fl T_2 w_12 1 fun n z => (LoadP CC 23 (gd (fieldAddrV (τ 25) 3 v5)) z (Gk T_2 A70 n z))) ∧
        (∀ v63 v64 v66 v67 v68 v70 : Value, Fl T_2 w_12 1 fun n z => (Is (fieldAddrV (τ 154) 0 x2))) ∧
        (∀ v63 v64 v66 v67 v68 v70 : Value, Fl T_2 w_12 1 fun n z => (Is (fieldAddrV (τ 152) 0 (gd (fieldAddrV (τ 154) 0 x2))))) ∧
        (∀ v63 v64 v66 v67 v68 v70 : Value, Fl T_2 w_12 1 fun n z => (LoadP CC 102 (gd (fieldAddrV (τ 152) 0 (gd (fieldAddrV (τ 154) 0 x2)))) z (Gk T_2 A73 n z))) ∧
        (∀ v63 v64 v66 v67 v68 v70 v73 : Value, Fl T_2 w_12 1 fun n z => A73 v73 (n, z) → (Is (indexAddrV (τ 102) v73 y27))) ∧
        (∀ v63 v64 v66 v67 v68 v70 v73 : Value, Fl T_2 w_12 1 fun n z => A73 v73 (n, z) → (LoadP CC 2 (gd (indexAddrV (τ 102) v73 y27)) z (Gk T_2 A76 n z))) ∧
        (∀ v63 v64 v66 v67 v68 v70 v73 v76 : Value, Fl T_2 w_12 1 fun n z => A73 v73 (n, z) → A76 v76 (n, z) → (Is (unV .neg v76))) ∧
        (∀ v63 v64 v66 v67 v68 v70 v73 v76 : Value, Fl T_2 w_12 1 fun n z => A63 v63 (n, z) → A64 v64 (n, z) → A66 v66 (n, z) → A67 v67 (n, z) → A68 v68 (n, z) → A73 v73 (n, z) → A76 v76 (n, z) → (CallP CC 36 [(gd (unV .neg v76))] z (Gk T_2 A78 n z))) ∧
        (∀ v63 v64 v66 v67 v68 v70 v73 v76 v78 : Value, Fl T_2 w_12 1 fun n z => A63 v63 (n, z) → A64 v64 (n, z) → A66 v66 (n, z) → A67 v67 (n, z) → A68 v68 (n, z) → A73 v73 (n, z) → A76 v76 (n, z) → A78 v78 (n, z) → (LitP CC 23 1 [(0, v78)] z (Gk T_2 A79 n z))) ∧
        (∀ v63 v64 v66 v67 v68 v70 v73 v76 v78 v79 : Value, Fl T_2 w_12 2 fun n z => n = 1 → L_2 [v68] z → blkOf v67 ≠ blkOf v79 → A63 v63 (n, z) → A64 v64 (n, z) → A66 v66 (n, z) → A67 v67 (n, z) → A68 v68 (n, z) → A70 v70 (n, z) → A73 v73 (n, z) → A76 v76 (n, z) → A78 v78 (n, z) → A79 v79 (n, z) → AppendP CC #[23, 23] 23 [v70, v79] z fun x y => Gl T_2 L_2 A80 n z [v68, x] x y) ∧
        (∀ v63 v64 v66 v67 v68 v70 v73 v76 v78 v79 v80 : Value, Fl T_2 w_12 2 fun n z => A63 v63 (n, z) → A64 v64 (n, z) → A66 v66 (n, z) → A67 v67 (n, z) → A68 v68 (n, z) → A70 v70 (n, z) → (Is (fieldAddrV (τ 25) 2 v5))) ∧
        (∀ v63 v64 v66 v67 v68 v70 v73 v76 v78 v79 v80 : Value, Fl T_2 w_12 3 fun n z => n = 2 → L_2 [v68, v80] z → blkOf v67 ≠ blkOf v79 → A63 v63 (n, z) → A64 v64 (n, z) → A66 v66 (n, z) → A67 v67 (n, z) → A68 v68 (n, z) → A70 v70 (n, z) → A73 v73 (n, z) → A76 v76 (n, z) → A78 v78 (n, z) → A79 v79 (n, z) → A80 v80 (n, z) → StoreP CC 22 (gd (fieldAddrV (τ 25) 2 v5)) v68 z fun y => Gl T_2 L_2 As20 n z [v68, v80, (gd (fieldAddrV (τ 25) 2 v5))] undef y) ∧
        (∀ v63 v64 v66 v67 v68 v70 v73 v76 v78 v79 v80 vs20 : Value, Fl T_2 w_12 3 fun n z => blkOf v67 ≠ blkOf v79 → A63 v63 (n, z) → A64 v64 (n, z) → A66 v66 (n, z) → A67 v67 (n, z) → A68 v68 (n, z) → A70 v70 (n, z) → A73 v73 (n, z) → A76 v76 (n, z) → A78 v78 (n, z) → A79 v79 (n, z) → A80 v80 (n, z) → As20 vs20 (n, z) → (Is (fieldAddrV (τ 25) 3 v5))) ∧
        (∀ v63 v64 v66 v67 v68 v70 v73 v76 v78 v79 v80 vs20 : Value, Fl T_2 w_12 4 fun n z => n = 3 → L_2 [v68, v80, (gd (fieldAddrV (τ 25) 2 v5))] z → blkOf v67 ≠ blkOf v79 → A63 v63 (n, z) → A64 v64 (n, z) → A66 v66 (n, z) → A67 v67 (n, z) → A68 v68 (n, z) → A70 v70 (n, z) → A73 v73 (n, z) → A76 v76 (n, z) → A78 v78 (n, z) → A79 v79 (n, z) → A80 v80 (n, z) → As20 vs20 (n, z) → StoreP CC 23 (gd (fieldAddrV (τ 25) 3 v5)) v80 z fun y => Gl T_2 L_2 As22 n z [v68, v80, (gd (fieldAddrV (τ 25) 2 v5)), (gd (fieldAddrV (τ 25) 3 v5))] undef y) ∧
        ∀ v63 v64 v66 v67 v68 v70 v73 v76 v78 v79 v80 vs20 vs22 : Value, ∀ (h_3 : Nat → Value) (w_13 : World), T_2 (0, w_12) (4, w_13) → blkOf v67 ≠ blkOf v79 → A63 v63 (4, w_13) → A64 v64 (4, w_13) → A66 v66 (4, w_13) → A67 v67 (4, w_13) → A68 v68 (4, w_13) → A70 v70 (4, w_13) → A73 v73 (4, w_13) → A76 v76 (4, w_13) → A78 v78 (4, w_13) → A79 v79 (4, w_13) → A80 v80 (4, w_13) → As20 vs20 (4, w_13) → As22 vs22 (4, w_13) → L_2 [v68, v80, (gd (fieldAddrV (τ 25) 2 v5)), (gd (fieldAddrV (τ 25) 3 v5))] w_13 → 
        ∃ x83, binV (.int .i64) .add y27 (.int .i64 1) = some x83 ∧
        I x83 w_13 ∧ μ x83 w_13 < μ y27 w_6) (
        ∃ x83_1, binV (.int .i64) .add y27 (.int .i64 1) = some x83_1 ∧
        I x83_1 w_12 ∧ μ x83_1 w_12 < μ y27 w_6)) (
      LoadP CC 25 v5 w_6 fun x84 w_14 =>
      StoreP CC 25 x4 x84 w_14 fun w_15 =>
      ∃ ad r, x4 = .pointer (some ad) ∧ (loadVar 25 ad).run CC.P w_15 = .ok r w_15 ∧
      R r w_15)
theorem V110_eq (a0 a1 : Value) (w : World) (R : Value → World → Prop) : V110 a0 a1 w R = FnP CC { keep := fun | 3 => [27] | _ => [], lin := fun | 1 => [16] | 6 => [4, 15, 17, 19] | 8 => [6, 18, 20, 22] | _ => [] } Tryz.f110 [a0, a1] w R := by kernel_rfl
theorem call110 {a0 a1 : Value} {w : World} {R : Value → World → Prop} (h : V110 a0 a1 w R) : CallP CC 110 [a0, a1] w R :=
  call_of_vc CC.ok _ Tryz.func110 (V110_eq a0 a1 w R ▸ h)
end Go.Proofs.YtaajkcngcalgoaaGreat
namespace Go.Proofs.YtaajkcngcalgoaaGreat
open Go Go.Vc Go.Spx
attribute [local irreducible] Tryz.prog
def Ints (e : TypeId) (P : Nat → Prop) (w : World) (v : Value) (l : List Int) : Prop := Sli (fun k _ => P k) w e 1 v l.length (l.map fun n => .int .i64 n) ∧ ∀ n ∈ l, -9223372036854775808 ≤ n ∧ n < 9223372036854775808
def BinR (c : Bool) (L : Nat) (P : Nat → Prop) (w : World) (v : Value) (b : Bin) : Prop :=
  ∃ o r bd bi, v = .agg #[.int .i64 b.lp.vars, o, r, bd, bi] ∧ LpR c L P w (.agg #[.int .i64 b.lp.vars, o, r, bd]) b.lp ∧ Ints 3 P w bi b.bin
def BinAt (c : Bool) (L : Nat) (P : Nat → Prop) (w : World) (g : Nat) (v : Value) (b : Bin) : Prop := BinR c L P w v b ∧ Blk w g 69 v.cells.toList
section
variable {c c' d : Bool} {L M K base n : Nat} {w w' w'' : World} {v o u a q : Value} {x y z : Rat} {xs ys row : List Rat} {m m' : List (List Rat)} {S P P' Q Q' : Nat → Prop} {cs vs : List Value} {b : Bin} {e : TypeId} {l : List Int}
theorem Ints.grow (h : Ints e P w v l) (hg : Grow w w') : Ints e P w' v l := ⟨h.1.keep hg.kp, h.2⟩
theorem Ints.md (h : Ints e P w v l) (hm : Md S w w') (hd : ∀ k, P k → ¬ S k) : Ints e P w' v l := ⟨h.1.md hm hd, h.2⟩
theorem Ints.mono (h : Ints e P w v l) (hq : ∀ k, k < w.heap.size → P k → Q k) : Ints e Q w v l := ⟨h.1.mono hq, h.2⟩
theorem Ints.len (h : Ints e P w v l) : lenV (.slice 1) v = some (.int .i64 l.length) := h.1.len
theorem iat_get {i : Nat} (hi : i < l.length) : l[i]? = some (iat l i) := by
  unfold iat; rw [List.getD_eq_getElem?_getD, List.getElem?_eq_getElem hi]; rfl
theorem Ints.idx (h : Ints e P w v l) {i : Nat} (hi : i < l.length) : ∃ x, indexAddrV (.slice 1) v (.int .i64 (i : Nat)) = some x := h.1.idx hi
theorem Ints.load {t : TypeId} {zero : List Value} {bytes i : Nat} {ad : Value} (h : Ints e P w v l) (ht : TI CC.P t 1 false zero bytes) (hx : indexAddrV (.slice 1) v (.int .i64 (i : Nat)) = some ad) (hi : i < l.length) {k : Value → World → Prop} (hk : k (.int .i64 (iat l i)) w) : LoadP CC t ad w k :=
  h.1.load1 (C := CC) ht hx (by rw [List.getElem?_map, iat_get hi]; rfl) hk
theorem Ints.rng (h : Ints e P w v l) (i : Nat) : -9223372036854775808 ≤ iat l i ∧ iat l i < 9223372036854775808 := by
  by_cases hi : i < l.length
  · exact h.2 _ (List.mem_of_getElem? (iat_get hi))
  · unfold iat; rw [List.getD_eq_getElem?_getD, List.getElem?_eq_none (by omega)]; decide
theorem Ints.one (h : Ints e P w v l) : v.oneCell' = true := by obtain ⟨a, cap, rfl, _⟩ := h.1.shape; rfl
theorem BinR.grow (h : BinR c L P w v b) (hg : Grow w w') : BinR c L P w' v b := by
  obtain ⟨o, r, bd, bi, h1, h2, h3⟩ := h; exact ⟨o, r, bd, bi, h1, h2.grow hg, h3.grow hg⟩
theorem BinR.md (h : BinR c L P w v b) (hm : Md S w w') (hd : ∀ k, P k → ¬ S k) : BinR c L P w' v b := by
  obtain ⟨o, r, bd, bi, h1, h2, h3⟩ := h; exact ⟨o, r, bd, bi, h1, h2.md hm hd, h3.md hm hd⟩
theorem BinR.mono (h : BinR c L P w v b) (hq : ∀ k, k < w.heap.size → P k → Q k) : BinR c L Q w v b := by
  obtain ⟨o, r, bd, bi, h1, h2, h3⟩ := h; exact ⟨o, r, bd, bi, h1, h2.mono hq, h3.mono hq⟩
theorem BinR.old (h : BinR c L P w v b) : BinR c L (fun k => k < w.heap.size) w v b := h.mono fun k hk _ => hk
theorem BinAt.grow {g : Nat} (h : BinAt c L P w g v b) (hg : Grow w w') : BinAt c L P w' g v b := ⟨h.1.grow hg, h.2.grow hg⟩
theorem BinAt.md {g : Nat} (h : BinAt c L P w g v b) (hm : Md S w w') (hd : ∀ k, P k → ¬ S k) (hg : ¬ S g) : BinAt c L P w' g v b := ⟨h.1.md hm hd, h.2.md hm hg⟩
theorem BinAt.box {k : Value → World → Prop} (h : BinR c L P w v b) (hk : ∀ g w', Grow w w' → w.heap.size ≤ g → g < w'.heap.size → BinAt c L P w' g v b → k (.pointer (some ⟨g, 0, none⟩)) w') : BoxP CC 69 v w k :=
  BoxP.mk fun g w' hg hl hl' hb => hk g w' hg hl hl' ⟨h.grow hg, hb⟩
theorem BinAt.load {g : Nat} {k : Value → World → Prop} (h : BinAt c L P w g v b) (hk : k v w) : LoadP CC 69 (.pointer (some ⟨g, 0, none⟩)) w k := by
  obtain ⟨⟨o, r, bd, bi, rfl, _⟩, hb⟩ := h
  exact LoadP.row (C := CC) (cs := [.int .i64 b.lp.vars, o, r, bd, bi]) ti69 (by simpa [Value.cells] using hb) rfl hk
theorem BinAt.lp {g : Nat} {k : Value → World → Prop} (h : BinAt c L P w g v b) (hk : ∀ u, LpR c L P w u b.lp → k u w) : LoadP CC 25 (.pointer (some ⟨g, 0, none⟩)) w k := by
  obtain ⟨⟨o, r, bd, bi, rfl, h2, _⟩, hb⟩ := h
  have hb : Blk w g 69 [.int .i64 b.lp.vars, o, r, bd, bi] := hb
  refine LoadP.many (C := CC) (cs := [.int .i64 b.lp.vars, o, r, bd]) ti25 hb rfl (fun j u hu => ?_) (hk _ h2)
  match j, hu with
  | 0, hu => simpa using hu
  | 1, hu => simpa using hu
  | 2, hu => simpa using hu
  | 3, hu => simpa using hu
theorem BinAt.vars {g : Nat} {k : Value → World → Prop} (h : BinAt c L P w g v b) (hk : k (.int .i64 b.lp.vars) w) : LoadP CC 3 (.pointer (some ⟨g, 0, none⟩)) w k := by
  obtain ⟨⟨o, r, bd, bi, rfl, h2, _⟩, hb⟩ := h
  have hb : Blk w g 69 [.int .i64 b.lp.vars, o, r, bd, bi] := hb
  exact LoadP.fld (C := CC) (o := 0) hb ti3 rfl hk
def biV (v : Value) : Value := match v with | .agg ⟨[_, _, _, _, o]⟩ => o | _ => undef
def lpV (v : Value) : Value := match v with | .agg ⟨[a, b, c, d, _]⟩ => .agg #[a, b, c, d] | _ => undef
theorem BinR.bi (h : BinR c L P w v b) : Ints 3 P w (biV v) b.bin := by obtain ⟨o, r, bd, bi, rfl, h2, h3⟩ := h; exact h3
theorem BinR.lpr (h : BinR c L P w v b) : LpR c L P w (lpV v) b.lp := by obtain ⟨o, r, bd, bi, rfl, h2, h3⟩ := h; exact h2
theorem BinAt.bin {g : Nat} {k : Value → World → Prop} (h : BinAt c L P w g v b) (hk : k (biV v) w) : LoadP CC 67 (.pointer (some ⟨g, 4, none⟩)) w k := by
  obtain ⟨⟨o, r, bd, bi, rfl, h2, h3⟩, hb⟩ := h
  have hb : Blk w g 69 [.int .i64 b.lp.vars, o, r, bd, bi] := hb
  exact LoadP.fld (C := CC) (o := 4) hb ti67 rfl hk
theorem clone {t e sz bytes : Nat} {zero : List Value} {agg : Bool} {k : Value → World → Prop} {x1 x2 : Operand} (hs : SL CC.P t e) (ht : TI CC.P e sz agg zero bytes) (hz : zero.length = sz) (hp : 0 < sz) (h : Sli (fun k _ => P k) w e sz v n cs) (h1 : ∀ u ∈ cs, u.oneCell' = true) (hb : n * bytes ≤ 140737488355328)
    (hk : ∀ r w', Grow w w' → Vc.Own w' w.heap.size e sz r n cs → k r w') :
    EqP CC .eql t x1 x2 v (.slice none 0 0) w fun x4 w_1 =>
      CondP x4 (k (.slice none 0 0) w_1) (
        LitP CC t 0 [] w_1 fun x5 w_2 =>
        AppendP CC #[t, t] t [x5, v] w_2 fun x7 w_3 => k x7 w_3) := by
  obtain ⟨a, cap, rfl, hcap⟩ := h.shape
  have hlen := h.1.1
  refine EqP.sliceNil hs (cB (fun ha => ?_) (fun ha => ?_))
  · refine hk _ _ (Grow.refl _) ?_
    rcases h.2 with ⟨he, hn⟩ | ⟨g, off, cap', he, _⟩
    · subst hn
      have : cs = [] := List.length_eq_zero_iff.1 (by omega)
      subst this; exact Vc.Own.nil _ _ _ _
    · simp only [Value.slice.injEq] at he; rw [he.1] at ha; cases ha
  · refine LitP.mk (C := CC) hs ht hz hp (by omega) (cs := []) rfl fun g w1 hg1 hlt hlt' hb' => ?_
    have ho : Vc.Own w1 w.heap.size e sz (.slice (some ⟨g, 0, none⟩) 0 0) 0 [] := Vc.Own.lit hb' (by simp) hlt (by simp only [maxLen]; omega)
    have hlim := h.lim
    refine AppendP.own (C := CC) hs ht hz hp ho (h.keep hg1.kp) h1 (by rw [Nat.zero_add]; exact hb) (by simp only [maxLen]; omega) hg1.size fun v' w' ho' hu hf => ?_
    refine hk _ _ (hg1.upd_new hu (fun k hk => by simp [Value.ownBlock] at hk; omega)) ?_
    simpa using ho'
end
end Go.Proofs.YtaajkcngcalgoaaGreat
namespace Go.Proofs.YtaajkcngcalgoaaGreat
open Go Go.Vc Go.Spx
attribute [local irreducible] Tryz.prog
section
variable {c c' d : Bool} {L M K base n : Nat} {w w' w'' : World} {v o u a q : Value} {x y z : Rat} {xs ys row : List Rat} {m m' : List (List Rat)} {S P P' Q Q' : Nat → Prop} {cs vs : List Value} {b : Bin} {e : TypeId} {l : List Int}
theorem vcells_all {vs : List Value} {L : Nat} {P : Nat → Prop} (h : Rows c L P w vs m) : ∀ u ∈ vs, u.oneCell' = true := by
  intro u hu
  obtain ⟨i, hi⟩ := List.mem_iff_getElem?.1 hu
  have hl : i < vs.length := by
    rcases Nat.lt_or_ge i vs.length with h | h
    · exact h
    · rw [List.getElem?_eq_none h] at hi; cases hi
  have hr : i < m.length := by rw [← h.1]; exact hl
  obtain ⟨u', h1, h2⟩ := h.2 i _ (List.getElem?_eq_getElem hr)
  rw [hi] at h1; cases h1
  exact h2.one
theorem c174 (h : Mat c L P P' w v m) (hl : m.length ≤ 1048576) : CallP CC 174 [v] w fun r w' => Grow w w' ∧ MatO c L P' w.heap.size w' r m := by
  obtain ⟨vs, h1, h2⟩ := h
  apply call174
  exact clone (k := fun r w' => Grow w w' ∧ MatO c L P' w.heap.size w' r m) sl22 ti23 rfl (by decide) h1 (vcells_all h2) (by omega) fun r w' hg ho => ⟨hg, vs, ho, h2.grow hg⟩
theorem c175 (h : Vec c L P w v xs) (hl : xs.length ≤ 1048576) : CallP CC 175 [v] w fun r w' => Grow w w' ∧ VecO c L w.heap.size w' r xs := by
  obtain ⟨cs, h1, h2⟩ := h
  apply call175
  exact clone (k := fun r w' => Grow w w' ∧ VecO c L w.heap.size w' r xs) sl23 ti30 rfl (by decide) h1 h2.1.2 (by omega) fun r w' hg ho => ⟨hg, cs, ho, h2.grow hg⟩
def I64O (base : Nat) (w : World) (v : Value) (l : List Int) : Prop := Vc.Own w base 2 1 v l.length (l.map fun n => .int .i64 n) ∧ ∀ n ∈ l, -9223372036854775808 ≤ n ∧ n < 9223372036854775808
theorem c176 (h : Ints 2 P w v l) (hl : l.length ≤ 1048576) : CallP CC 176 [v] w fun r w' => Grow w w' ∧ I64O w.heap.size w' r l := by
  apply call176
  exact clone (k := fun r w' => Grow w w' ∧ I64O w.heap.size w' r l) sl102 ti2 rfl (by decide) h.1 (by simp [Value.oneCell']) (by omega) fun r w' hg ho => ⟨hg, ho, h.2⟩
theorem c54 (h : BinR c L P w v b) (hrg : validP b.lp = true → b.bin.length ≤ 12 → ∀ i, i < b.bin.length → 0 ≤ iat b.bin i ∧ iat b.bin i < b.lp.vars) : CallP CC 54 [v] w fun r w' => Grow w w' ∧ r = .bool (validB b) := by
  apply call54
  refine BinAt.box h fun g1 w1 hg1 hl1 hl1' hat => px rfl (hat.lp fun u hu => (c77 hu).mono ?_)
  rintro _ w3 ⟨hg3, rfl⟩
  have hat3 := hat.grow hg3
  have hg03 := hg1.trans hg3
  refine px rfl ?_
  cases hv : validP b.lp with
  | false =>
    refine cT rfl (px rfl (cT rfl ⟨hg03, ?_⟩))
    unfold validB; rw [hv]; rfl
  | true =>
    refine cF rfl (px rfl (hat3.bin (px hat3.1.bi.len (px rfl (px rfl (cD (fun hgt => ?_) (fun hle => ?_)))))))
    · refine ⟨hg03, ?_⟩
      unfold validB
      rw [decide_eq_false (show ¬ b.bin.length ≤ 12 by omega)]; simp
    · have hle' : b.bin.length ≤ 12 := by omega
      have hvb : validB b = (List.range b.bin.length).all (okAt b) := by
        unfold validB; rw [hv, decide_eq_true hle']; simp
      refine px rfl (hat3.bin (px hat3.1.bi.len ?_))
      refine ⟨fun y w' => ∃ i : Nat, y = .int .i64 (i : Nat) ∧ i ≤ b.bin.length ∧ Grow w3 w' ∧ ∀ j, j < i → okAt b j = true, fun y _ => b.bin.length - (vint y).toNat, ⟨0, rfl, by omega, Grow.refl _, fun j hj => by omega⟩, ?_⟩
      rintro _ - w5 ⟨i, rfl, hi, hg5, hok⟩
      have hat5 := hat3.grow hg5
      have hg05 := hg03.trans hg5
      have hno : okAt b i = false → i < b.bin.length → validB b = false := fun h hl => by
        rw [hvb, List.all_eq_false]
        exact ⟨i, by simpa using hl, by simp [h]⟩
      refine px rfl (cD (fun hlt => ?_) (fun hge => ?_))
      · have hil : i < b.bin.length := by omega
        obtain ⟨ad, had⟩ := hat5.1.bi.idx hil
        obtain ⟨hk0, hkv⟩ := hrg hv hle' i hil
        have e24 : binV (.int .i64) .lss (.int .i64 (iat b.bin i)) (.int .i64 0) = some (.bool false) := by
          show some (Value.bool (decide (iat b.bin i < 0))) = _
          rw [decide_eq_false (by omega)]
        have e30 : binV (.int .i64) .geq (.int .i64 (iat b.bin i)) (.int .i64 b.lp.vars) = some (.bool false) := by
          show some (Value.bool (decide (iat b.bin i ≥ b.lp.vars))) = _
          rw [decide_eq_false (by omega)]
        refine px had (hat5.1.bi.load ti3 had hil (px e24 (cF rfl (px rfl (px rfl (hat5.vars (px e30 (px rfl (cF rfl ?_)))))))))
        have next : okAt b i = true → ∀ {w6 : World}, Grow w3 w6 → ∃ x46, binV (.int .i64) .add (.int .i64 (i : Nat)) (.int .i64 1) = some x46 ∧ (∃ i : Nat, x46 = .int .i64 (i : Nat) ∧ i ≤ b.bin.length ∧ Grow w3 w6 ∧ ∀ j, j < i → okAt b j = true) ∧ b.bin.length - (vint x46).toNat < b.bin.length - (vint (.int .i64 (i : Nat))).toNat := fun h w6 hg => by
          refine pi rfl (by omega) ⟨⟨i + 1, by simp, by omega, hg, fun j hj => ?_⟩, by simp only [vint_int]; omega⟩
          by_cases e : j = i
          · subst e; exact h
          · exact hok j (by omega)
        have ok1 : ∀ t, (decide (i = 0) || decide (iat b.bin (i - 1) < iat b.bin i)) = t → okAt b i = t := fun t h => by
          unfold okAt; rw [decide_eq_true hk0, decide_eq_true hkv, h]; rfl
        rcases Nat.eq_zero_or_pos i with e0 | e0
        · have e34 : binV (.int .i64) .gtr (.int .i64 (i : Nat)) (.int .i64 0) = some (.bool false) := by
            show some (Value.bool (decide (((i : Nat) : Int) > 0))) = _
            rw [decide_eq_false (by omega)]
          exact px e34 (cF rfl (px rfl (px rfl (cF rfl (next (ok1 true (by rw [decide_eq_true e0]; rfl)) hg5)))))
        · have e34 : binV (.int .i64) .gtr (.int .i64 (i : Nat)) (.int .i64 0) = some (.bool true) := by
            show some (Value.bool (decide (((i : Nat) : Int) > 0))) = _
            rw [decide_eq_true (by omega)]
          have hil2 : i - 1 < b.bin.length := by omega
          have e40 : binV (.int .i64) .sub (.int .i64 (i : Nat)) (.int .i64 1) = some (.int .i64 ((i - 1 : Nat) : Int)) := by
            show some (Value.int .i64 (IntKind.i64.wrap (((i : Nat) : Int) - 1))) = _
            rw [wrap_i64 (by have := hat5.1.bi.1.lim; omega)]; congr 2; omega
          obtain ⟨ad2, had2⟩ := hat5.1.bi.idx hil2
          refine px e34 (cT rfl (px rfl (hat5.bin (px e40 (px had2 (hat5.1.bi.load ti3 had2 hil2 (px rfl (px rfl (px rfl (cD (fun hle3 => ?_) (fun hgt3 => ?_)))))))))))
          · refine ⟨hg05, ?_⟩
            rw [hno (ok1 false (by rw [decide_eq_false (by omega), decide_eq_false (by omega)]; rfl)) hil]
          · exact next (ok1 true (by rw [decide_eq_true (show iat b.bin (i - 1) < iat b.bin i by omega)]; simp)) hg5
      · have : i = b.bin.length := by omega
        subst this
        refine ⟨hg05, ?_⟩
        rw [hvb, List.all_eq_true.2 fun j hj => hok j (by simpa using hj)]
theorem find_range {N k : Nat} {f : Nat → Bool} (hk : k < N) (h0 : ∀ j, j < k → f j = false) (h1 : f k = true) : (List.range N).find? f = some k := by
  refine Lx.find_at (k := k) (by rw [List.getElem?_range hk]) (fun j hj => ?_) h1
  rw [List.take_range] at hj
  exact h0 j (by simp at hj; omega)
theorem find_none {N : Nat} {f : Nat → Bool} (h0 : ∀ j, j < N → f j = false) : (List.range N).find? f = none := by
  rw [List.find?_eq_none]
  intro j hj
  rw [h0 j (by simpa using hj)]; decide
def intV (o : Option Nat) : Value := match o with | none => .tuple #[.int .i64 0, .bool true] | some i => .tuple #[.int .i64 (i : Nat), .bool false]
theorem c112 (h : BinR c L P w v b) (hx : Vec c' M Q w q xs) (hk : ∀ i, i < b.bin.length → 0 ≤ iat b.bin i) (h1 : 2 ≤ M) (h2 : M ≤ 268435456) : CallP CC 112 [v, q] w fun r w' => Grow w w' ∧ r = intV (integral b.bin xs) := by
  apply call112
  refine BinAt.box h fun g1 w1 hg1 hl1 hl1' hat => px rfl (hat.bin (px hat.1.bi.len ?_))
  refine ⟨fun y w' => ∃ i : Nat, y = .int .i64 (i : Nat) ∧ i ≤ b.bin.length ∧ Grow w1 w' ∧ ∀ j, j < i → (decide (iat b.bin j < xs.length) && decide (qat xs (iat b.bin j).toNat ≠ 0) && decide (qat xs (iat b.bin j).toNat ≠ 1)) = false, fun y _ => b.bin.length - (vint y).toNat, ⟨0, rfl, by omega, Grow.refl _, fun j hj => by omega⟩, ?_⟩
  rintro _ - w3 ⟨i, rfl, hi, hg3, hok⟩
  have hat3 := hat.grow hg3
  have hg03 := hg1.trans hg3
  have hx3 := hx.grow hg03
  refine px rfl (cD (fun hlt => ?_) (fun hge => ?_))
  · have hil : i < b.bin.length := by omega
    have hk0 := hk i hil
    obtain ⟨ad, had⟩ := hat3.1.bi.idx hil
    refine px had (hat3.1.bi.load ti3 had hil ?_)
    have elen : lenV (tyOf tyTab 23) q = some (.int .i64 (xs.length : Nat)) := hx.len
    have next : (decide (iat b.bin i < xs.length) && decide (qat xs (iat b.bin i).toNat ≠ 0) && decide (qat xs (iat b.bin i).toNat ≠ 1)) = false → ∀ {w6 : World}, Grow w3 w6 → ∃ x46, binV (.int .i64) .add (.int .i64 (i : Nat)) (.int .i64 1) = some x46 ∧ (∃ i : Nat, x46 = .int .i64 (i : Nat) ∧ i ≤ b.bin.length ∧ Grow w1 w6 ∧ ∀ j, j < i → (decide (iat b.bin j < xs.length) && decide (qat xs (iat b.bin j).toNat ≠ 0) && decide (qat xs (iat b.bin j).toNat ≠ 1)) = false) ∧ b.bin.length - (vint x46).toNat < b.bin.length - (vint (.int .i64 (i : Nat))).toNat := fun h w6 hg => by
      refine pi rfl (by have := hat3.1.bi.1.lim; omega) ⟨⟨i + 1, by simp, by omega, hg3.trans hg, fun j hj => ?_⟩, by simp only [vint_int]; omega⟩
      by_cases e : j = i
      · subst e; exact h
      · exact hok j (by omega)
    by_cases hc : iat b.bin i < xs.length
    · have e1 : gd (binV (.int .i64) .lss (.int .i64 (iat b.bin i)) (gd (lenV (tyOf tyTab 23) q))) = .bool true := by
        rw [elen]; show Value.bool (decide (iat b.bin i < ((xs.length : Nat) : Int))) = _; rw [decide_eq_true hc]
      rw [e1]
      have pt : ∀ u : Value, gd (pickV (.bool true) u (.bool false)) = u := fun _ => rfl
      simp only [pt]
      obtain ⟨k, hke⟩ : ∃ k : Nat, k = (iat b.bin i).toNat := ⟨_, rfl⟩
      have hki : iat b.bin i = (k : Int) := by omega
      have hkl : k < xs.length := by omega
      obtain ⟨ad2, had2⟩ := hx3.idx (k := .i64) hkl
      have had2' : indexAddrV (tyOf tyTab 23) q (.int .i64 (iat b.bin i)) = some ad2 := by rw [hki]; exact had2
      refine ⟨fun z w' => QR c' M w' z (qat xs k), fun z _ => z = .int .i64 (vsgn (qat xs k)), fun z w' => QR c' M w' z (qat xs k), fun z w' => QR true 2 w' z 1, fun z _ => z = .bool (decide (qat xs k = 1)), ?_, ?_, ?_, ?_, ?_, ?_, ?_, ?_, ?_, ?_, ?_, ?_, ?_, ?_⟩
      · exact fun _ _ => ⟨_, elen⟩
      · intro w5 hg; rw [elen]; exact ⟨_, rfl⟩
      · exact fun _ _ _ => ⟨_, had2'⟩
      · intro w5 hg _
        rw [had2']
        exact (hx3.grow hg).load had2 (qat_get hkl) fun r hr => ⟨Grow.refl _, fun w9 ht => hr.grow ht⟩
      · intro _ w5 hg h24 _
        exact fc (q42 (h24 trivial) h1) fun r w5 w6 hr _ => hr
      · rintro _ _ w5 hg _ h25 _; rw [h25 trivial]; exact ⟨_, rfl⟩
      · (try dsimp only [Fw, Fl]); intros; exact ⟨_, rfl⟩
      · (try dsimp only [Fw, Fl]); intros; exact ⟨_, had2'⟩
      · intro _ _ w5 hg _ _ _
        rw [had2']
        exact (hx3.grow hg).load had2 (qat_get hkl) fun r hr => ⟨Grow.refl _, fun w9 ht => hr.grow ht⟩
      · (try dsimp only [Fw, Fl]); intros; exact fc (q36 (n := 1) (by decide)) fun r w5 w6 hr ht => hr.grow ht
      · intro _ _ _ _ w5 hg _ _ h32 h33 hgd
        exact fc (c47 (h32 hgd) (h33 hgd) h1 h2 (by decide) (by decide)) fun r w5 w6 hr _ => hr
      · intro _ _ _ _ _ w5 hg _ _ _ _ h34 hgd; rw [h34 hgd]; exact ⟨_, rfl⟩
      · intro _ _ _ _ _ w5 hg _ h25 _ _ _; rw [h25 trivial]; exact ⟨_, rfl⟩
      · intro _ v25 _ _ v34 _ w23 hg _ h25 _ _ h34
        rw [h25 trivial] at h34 ⊢
        have en : gd (binV (.int .i64) .neq (.int .i64 (vsgn (qat xs k))) (.int .i64 0)) = .bool (decide (qat xs k ≠ 0)) := by
          show Value.bool (vsgn (qat xs k) != 0) = _
          congr 1
          rw [Bool.eq_iff_iff, bne_iff_ne, decide_eq_true_iff, ne_eq, ne_eq, vsgn_zero]
        rw [en] at h34 ⊢
        by_cases hz : qat xs k = 0
        · rw [decide_eq_false (by simpa using hz)]
          exact cF rfl (next (by rw [← hke, decide_eq_false (show ¬ qat xs k ≠ 0 by simpa using hz)]; simp) hg)
        · rw [decide_eq_true (show qat xs k ≠ 0 from hz)] at h34 ⊢
          rw [h34 rfl]
          show CondP (.bool (!decide (qat xs k = 1))) _ _
          by_cases ho : qat xs k = 1
          · rw [decide_eq_true ho]
            exact cF rfl (next (by rw [← hke, decide_eq_false (show ¬ qat xs k ≠ 1 by simpa using ho)]; simp) hg)
          · rw [decide_eq_false ho]
            refine cT rfl ⟨hg03.trans hg, ?_⟩
            have : integral b.bin xs = some i := find_range hil hok (by rw [← hke, decide_eq_true hc, decide_eq_true (show qat xs k ≠ 0 from hz), decide_eq_true (show qat xs k ≠ 1 from ho)]; rfl)
            rw [this]; rfl
    · have e1 : gd (binV (.int .i64) .lss (.int .i64 (iat b.bin i)) (gd (lenV (tyOf tyTab 23) q))) = .bool false := by
        rw [elen]; show Value.bool (decide (iat b.bin i < ((xs.length : Nat) : Int))) = _; rw [decide_eq_false hc]
      rw [e1]
      have pt : ∀ u : Value, gd (pickV (.bool false) u (.bool false)) = .bool false := fun _ => rfl
      simp only [pt]
      refine ⟨fun _ _ => True, fun _ _ => True, fun _ _ => True, fun _ _ => True, fun _ _ => True, ?_, ?_, ?_, ?_, ?_, ?_, ?_, ?_, ?_, ?_, ?_, ?_, ?_, ?_⟩
      · exact fun _ _ => ⟨_, elen⟩
      · intro w5 hg; rw [elen]; exact ⟨_, rfl⟩
      any_goals ((try dsimp only [Fw, Fl]); intros; first | (rename_i hh; cases hh; done) | fail)
      any_goals ((try dsimp only [Fw, Fl]); intros; exact ⟨_, rfl⟩)
      intro _ _ _ _ _ _ w23 hg _ _ _ _ _
      exact cF rfl (next (by rw [decide_eq_false hc]; rfl) hg)
  · have : i = b.bin.length := by omega
    subst this
    refine ⟨hg03, ?_⟩
    have : integral b.bin xs = none := find_none hok
    rw [this]; rfl
end
end Go.Proofs.YtaajkcngcalgoaaGreat
namespace Go.Proofs.YtaajkcngcalgoaaGreat
open Go Go.Vc Go.Spx
attribute [local irreducible] Tryz.prog
def Rq (L base : Nat) (w : World) (vm vr : Value) (mm : List (List Rat)) (rr : List Rat) : Prop :=
  MatO true L (fun k => vr.ownBlock ≠ some k) base w vm mm ∧ VecO true L base w vr rr
def NodeR (P : Nat → Prop) (w : World) (v : Value) (n : BNode) : Prop := ∃ lo hi, v = .agg #[lo, hi, .int .i64 (n.depth : Nat)] ∧ Ints 2 P w lo n.lo ∧ Ints 2 P w hi n.hi
section
variable {c c' d : Bool} {L M K base : Nat} {w w' w'' : World} {v o u a q : Value} {x y z : Rat} {xs ys row : List Rat} {m m' : List (List Rat)} {S P P' Q Q' : Nat → Prop} {cs vs : List Value} {b : Bin} {e : TypeId} {l : List Int} {n : BNode}
variable {vm vr vm' vr' : Value} {mm mm' : List (List Rat)} {rr rr' : List Rat}
theorem Rq.grow (h : Rq L base w vm vr mm rr) (hg : Grow w w') : Rq L base w' vm vr mm rr := ⟨h.1.grow hg, h.2.grow hg⟩
theorem Rq.mat (h : Rq L base w vm vr mm rr) (hm : Md (fun k => vm.ownBlock = some k) w w') (hn : MatO true L (fun k => vr.ownBlock ≠ some k) base w' vm' mm') : Rq L base w' vm' vr mm' rr := by
  obtain ⟨⟨vs, h1, h1'⟩, ⟨rs, h2, h2'⟩⟩ := h
  exact ⟨hn, VecO.md ⟨rs, h2, h2'⟩ hm (fun k hk e => own_apart h2 h1 (by decide) k hk e)⟩
theorem Rq.right (h : Rq L base w vm vr mm rr) (hm : Md (fun k => vr.ownBlock = some k) w w') (hn : VecO true L base w' vr' rr') (hf : ∀ g, vr'.ownBlock = some g → vr.ownBlock = some g ∨ w.heap.size ≤ g) : Rq L base w' vm vr' mm rr' := by
  obtain ⟨⟨vs, h1, h1'⟩, ⟨rs, h2, h2'⟩⟩ := h
  refine ⟨?_, hn⟩
  have h4 : MatO true L (fun k => vr.ownBlock ≠ some k ∧ k < w.heap.size) base w vm mm := MatO.mono ⟨vs, h1, h1'⟩ fun k hk h => ⟨h, hk⟩
  have h5 : MatO true L (fun k => vr.ownBlock ≠ some k ∧ k < w.heap.size) base w' vm mm := h4.md hm (fun k hk e => own_apart h1 h2 (by decide) k hk e) fun k hk e => hk.1 e
  exact h5.mono fun k _ hk e => by rcases hf k e with h | h; exact hk.1 h; omega
theorem Rq.head {g : Nat} (h : Rq L base w vm vr mm rr) (hb : Blk w g 25 cs) (hm : Md (· = g) w w') : Rq L base w' vm vr mm rr := by
  obtain ⟨⟨vs, h1, h1'⟩, ⟨rs, h2, h2'⟩⟩ := h
  have ne : ∀ {e sz n : Nat} {v : Value} {xs : List Value}, Vc.Own w base e sz v n xs → 25 ≠ e → ∀ k, v.ownBlock = some k → ¬ k = g := fun ho he k hk e => Vc.Own.ne ho hb he (by rw [← e]; exact hk)
  exact ⟨MatO.md2 ⟨vs, h1, h1'⟩ hm (ne h1 (by decide)) (fun k _ hk => NoB.of hb (by decide) k hk), VecO.md ⟨rs, h2, h2'⟩ hm (ne h2 (by decide))⟩
theorem NodeR.mono (h : NodeR P w v n) (hq : ∀ k, k < w.heap.size → P k → Q k) : NodeR Q w v n := by
  obtain ⟨lo, hi, h1, h2, h3⟩ := h; exact ⟨lo, hi, h1, h2.mono hq, h3.mono hq⟩
theorem nodeAll_succ {k : Nat} : nodeAll b n (k + 1) = nodeAll b n k ++ nodeAt b n k := by
  unfold nodeAll; rw [List.range_succ, List.flatMap_append]; simp
theorem nodeAll_len {k : Nat} : (nodeAll b n k).length ≤ 2 * k := by
  induction k with
  | zero => simp [nodeAll]
  | succ k ih =>
    rw [nodeAll_succ, List.length_append]
    have : (nodeAt b n k).length ≤ 2 := by unfold nodeAt; split <;> simp
    omega
def rowsAt (b : Bin) (n : BNode) (k : Nat) : List (List Rat) := b.lp.rows ++ (nodeAll b n k).map (·.1)
def bndsAt (b : Bin) (n : BNode) (k : Nat) : List Rat := b.lp.bounds ++ (nodeAll b n k).map (·.2)
theorem rowsAt_zero : rowsAt b n 0 = b.lp.rows := by simp [rowsAt, nodeAll]
theorem bndsAt_zero : bndsAt b n 0 = b.lp.bounds := by simp [bndsAt, nodeAll]
theorem c110 (hn : NodeR P' w a n) (h : BinR true L P w v b) (h1 : 7 ≤ L) (h2 : L ≤ 268435456) (hlo : n.lo.length = b.bin.length) (hhi : n.hi.length = b.bin.length) (hr : b.lp.rows.length ≤ 128) (hbd : b.lp.bounds.length ≤ 128) (hbl : b.bin.length ≤ 12) (hob : b.lp.objs.length ≤ 1048576) :
    CallP CC 110 [a, v] w fun r w' => Grow w w' ∧ LpR true L (fun _ => True) w' r (nodeP b n) := by
  obtain ⟨lo, hi, rfl, hlo', hhi'⟩ := hn
  have hn1 : Ints 2 (fun k => k < w.heap.size) w lo n.lo := hlo'.mono fun k hk _ => hk
  have hn2 : Ints 2 (fun k => k < w.heap.size) w hi n.hi := hhi'.mono fun k hk _ => hk
  have hb0 := h.old
  apply call110
  refine BoxP.mk fun g2 w1 hg1 hl2 hl2' hb2 => ?_
  have z1 := hg1.size
  have hb2 : Blk w1 g2 154 [lo, hi, .int .i64 (n.depth : Nat)] := hb2
  refine BinAt.box (hb0.grow hg1) fun g3 w2 hg2 hl3 hl3' hat2 => ?_
  have z2 := hg2.size
  refine AllocP.mk (C := CC) ti25 fun g4 w3 hg3 hl4 hl4' hb4 => ?_
  have z3 := hg3.size
  have hat3 := hat2.grow hg3
  have hb23 := (hb2.grow hg2).grow hg3
  have hg03 := (hg1.trans hg2).trans hg3
  have hlp3 := hat3.1.lpr
  obtain ⟨⟨ob, rw_, bd, bi, rfl, hlpr, hbi⟩, hblk⟩ := id hat3
  have hblk : Blk w3 g3 69 [.int .i64 b.lp.vars, ob, rw_, bd, bi] := hblk
  have hlim := hlpr.lim
  have hrR : Mat true L (fun k => k < w.heap.size) (fun k => k < w.heap.size) w3 rw_ b.lp.rows := hlpr.rws
  have hbB : Vec true L (fun k => k < w.heap.size) w3 bd b.lp.bounds := hlpr.bnds
  have hoO : Mat true L (fun k => k < w.heap.size) (fun k => k < w.heap.size) w3 ob b.lp.objs := hlpr.objs
  obtain ⟨oa, oc, rfl, _⟩ := hoO.shape
  refine ⟨PhS (fun k => w3.heap.size ≤ k), fun l w' => match l with
      | [] => True
      | [v5] => Md (fun k => w3.heap.size ≤ k) w3 w' ∧ ∃ g5 vR vB, v5 = .pointer (some ⟨g5, 0, none⟩) ∧ w3.heap.size ≤ g5 ∧ Blk w' g5 25 [.int .i64 b.lp.vars, .slice oa b.lp.objs.length oc, vR, vB] ∧ Rq L w3.heap.size w' vR vB (rowsAt b n 0) (bndsAt b n 0)
      | _ => True, PhS.grow _, PhS.trans _, fun _ _ => trivial,
    fun z _ => z = .int .i64 b.lp.vars, fun z _ => z = .slice oa b.lp.objs.length oc, fun z _ => z = rw_, fun z s' => s'.1 = 0 → MatO true L (fun k => k < w3.heap.size) w3.heap.size s'.2 z (rowsAt b n 0), fun z _ => z = bd, fun z s' => s'.1 = 0 → VecO true L w3.heap.size s'.2 z (bndsAt b n 0), fun z s' => s'.1 = 0 → ∃ g, z = .pointer (some ⟨g, 0, none⟩) ∧ w3.heap.size ≤ g ∧ Blk s'.2 g 25 [.int .i64 0, .slice none 0 0, .slice none 0 0, .slice none 0 0], fun _ _ => True, ?_, ?_, ?_, ?_, ?_, ?_, ?_, ?_, ?_, ?_, ?_, ?_, ?_, ?_, ?_, ?_, ?_, ?_⟩
  any_goals ((try dsimp only [Fw, Fl]); intros; first | exact ⟨_, rfl⟩ | fail)
  · intro n w1 hn ht
    obtain ⟨rfl, hg⟩ := ht.z hn
    exact LoadP.fld (o := 0) (hblk.grow hg) ti3 rfl ⟨Grow.refl _, fun _ _ _ => rfl⟩
  · intro _ n w1 hn ht
    obtain ⟨rfl, hg⟩ := ht.z hn
    exact LoadP.fld (o := 1) (hblk.grow hg) ti22 rfl ⟨Grow.refl _, fun _ _ _ => rfl⟩
  · intro _ _ n w1 hn ht
    obtain ⟨rfl, hg⟩ := ht.z hn
    exact LoadP.fld (o := 2) (hblk.grow hg) ti22 rfl ⟨Grow.refl _, fun _ _ _ => rfl⟩
  · rintro _ _ _ n w1 hn ht e
    obtain ⟨rfl, hg⟩ := ht.z hn
    rw [e]
    refine fg (c174 (hrR.grow hg) (by omega)) fun r w5 m w6 hr ht hm => ?_
    rw [rowsAt_zero]
    have zg := hg.size
    exact ((hr.grow (ht.z (Nat.le_of_eq hm)).2).down hg.size).mono fun k _ hk => by omega
  · intro _ _ _ _ n w1 hn ht
    obtain ⟨rfl, hg⟩ := ht.z hn
    exact LoadP.fld (o := 3) (hblk.grow hg) ti23 rfl ⟨Grow.refl _, fun _ _ _ => rfl⟩
  · rintro _ _ _ _ _ n w1 hn ht _ _ e
    obtain ⟨rfl, hg⟩ := ht.z hn
    rw [e]
    refine fg (c175 (hbB.grow hg) (by omega)) fun r w5 m w6 hr ht hm => ?_
    rw [bndsAt_zero]
    exact (hr.grow (ht.z (Nat.le_of_eq hm)).2).down hg.size
  · rintro _ _ _ _ _ _ n w1 hn ht rfl rfl _ h18 _ h22
    obtain ⟨rfl, hg⟩ := ht.z hn
    obtain ⟨xa, xc, rfl⟩ := (h18 rfl).len
    obtain ⟨ya, yc, rfl⟩ := (h22 rfl).len
    exact ⟨_, rfl⟩
  · intro _ _ _ _ _ _ n w1 hn ht
    obtain ⟨rfl, hg⟩ := ht.z hn
    exact AllocP.mk (C := CC) ti25 fun g w9 hg9 hl9 _ hb9 => ⟨hg9, fun m w10 ht hm => ⟨g, rfl, by have := hg.size; omega, hb9.grow (ht.z (Nat.le_of_eq hm)).2⟩⟩
  · rintro _ _ _ v18 _ v22 _ j w1 hn ht rfl _ rfl rfl _ h18 _ h22 h5
    obtain ⟨_, hg⟩ := ht.z (Nat.le_refl _)
    obtain ⟨g5, rfl, hl5, hb5⟩ := h5 rfl
    have h18 := h18 rfl
    have h22 := h22 rfl
    obtain ⟨xa, xc, rfl⟩ := h18.len
    obtain ⟨ya, yc, rfl⟩ := h22.len
    refine StoreP.row (C := CC) (cs := [.int .i64 b.lp.vars, .slice oa b.lp.objs.length oc, .slice xa (rowsAt b n 0).length xc, .slice ya (bndsAt b n 0).length yc]) hb5 ti25 rfl rfl (fun t ht => ?_) fun w9 hu9 hb9 => ?_
    · simp only [List.mem_cons, List.not_mem_nil, or_false] at ht
      rcases ht with rfl | rfl | rfl | rfl <;> rfl
    have hm9 : Md (fun k => k = g5) w1 w9 := Md.of hu9 hb5 (by decide)
    have hmS := hm9.mono (S' := fun k => w3.heap.size ≤ k) fun k hk => by omega
    have zg := hg.size
    have hq : Rq L w3.heap.size w1 (.slice xa (rowsAt b n 0).length xc) (.slice ya (bndsAt b n 0).length yc) (rowsAt b n 0) (bndsAt b n 0) :=
      ⟨h18.mono fun k _ hk e => by have := (h22.block k e).1; omega, h22⟩
    exact ⟨PhS.next hmS, fun _ _ _ => trivial, fun w'' hg' => ⟨((Md.grow hg).trans hmS).trans (Md.grow hg'), g5, _, _, rfl, hl5, hb9.grow hg', (hq.head hb5 hm9).grow hg'⟩⟩
  rintro _ _ _ _ _ _ _ _ _ w29 ht _ _ _ _ _ _ _ _ ⟨hm29, g5, vR0, vB0, rfl, hl5, hb529, hq29⟩
  have z29 := hm29.size
  have hN : ∀ k, k < w.heap.size → ¬ w3.heap.size ≤ k := fun k hk => by omega
  have keep : ∀ {w' : World}, Md (fun k => w3.heap.size ≤ k) w3 w' → BinAt true L (fun k => k < w.heap.size) w' g3 (.agg #[.int .i64 b.lp.vars, .slice oa b.lp.objs.length oc, rw_, bd, bi]) b ∧ Blk w' g2 154 [lo, hi, .int .i64 (n.depth : Nat)] ∧ Blk w' g4 25 [.int .i64 0, .slice none 0 0, .slice none 0 0, .slice none 0 0] ∧ Ints 2 (fun k => k < w.heap.size) w' lo n.lo ∧ Ints 2 (fun k => k < w.heap.size) w' hi n.hi ∧ Mat true L (fun k => k < w.heap.size) (fun k => k < w.heap.size) w' (.slice oa b.lp.objs.length oc) b.lp.objs := fun hm =>
    ⟨hat3.md hm hN (by omega), hb23.md hm (by omega), hb4.md hm (by omega), (hn1.grow hg03).md hm hN, (hn2.grow hg03).md hm hN, hoO.md hm hN hN⟩
  obtain ⟨hat29, -, -, -, -, -⟩ := keep hm29
  refine px rfl (hat29.bin (px hat29.1.bi.len ?_))
  refine ⟨fun y w' => ∃ (i : Nat) (vR vB : Value), y = .int .i64 (i : Nat) ∧ i ≤ b.bin.length ∧ Md (fun k => w3.heap.size ≤ k) w3 w' ∧ Blk w' g5 25 [.int .i64 b.lp.vars, .slice oa b.lp.objs.length oc, vR, vB] ∧ Rq L w3.heap.size w' vR vB (rowsAt b n i) (bndsAt b n i), fun y _ => b.bin.length - (vint y).toNat,
    ⟨0, vR0, vB0, rfl, by omega, hm29, hb529, hq29⟩, ?_⟩
  rintro _ - w31 ⟨i, vR, vB, rfl, hi_, hm31, hb531, hq31⟩
  have z31 := hm31.size
  obtain ⟨hat31, hb231, hb431, hlo31, hhi31, hoO31⟩ := keep hm31
  refine px rfl (cD (fun hlt => ?_) (fun hge => ?_))
  · have hil : i < b.bin.length := by omega
    obtain ⟨adb, hadb⟩ := hat31.1.bi.idx hil
    refine px hadb (hat31.1.bi.load ti3 hadb hil (px rfl (px rfl (hat31.vars (c52.mono ?_)))))
    rintro x36 w34 ⟨hg34, hu⟩
    have z34 := hg34.size
    obtain ⟨un, hun⟩ : ∃ un, un = unit (min b.lp.vars.toNat 65536) (iat b.bin i) := ⟨_, rfl⟩
    rw [← hun] at hu
    have hunl : un.length ≤ 65536 := by rw [hun]; simp [unit]; omega
    have hub := hu.block
    have hna : nodeAt b n i = (un, (iat n.hi i : Rat)) :: if 0 < iat n.lo i then [(vscale (-1) un, ((- iat n.lo i : Int) : Rat))] else [] := by rw [hun]; rfl
    obtain ⟨mm, hmm⟩ : ∃ mm, mm = rowsAt b n i := ⟨_, rfl⟩
    obtain ⟨rr, hrr⟩ : ∃ rr, rr = bndsAt b n i := ⟨_, rfl⟩
    rw [← hmm, ← hrr] at hq31
    have hml : mm.length ≤ 1000 := by rw [hmm]; unfold rowsAt; have := nodeAll_len (b := b) (n := n) (k := i); simp; omega
    have hrl : rr.length ≤ 1000 := by rw [hrr]; unfold bndsAt; have := nodeAll_len (b := b) (n := n) (k := i); simp; omega
    have hvR := hq31.1.block
    have hvB := hq31.2.block
    have hm34 := hm31.trans (Md.grow hg34)
    have hq34 := hq31.grow hg34
    have hb534 := hb531.grow hg34
    have hnR : vR.ownBlock ≠ some g5 := hq31.1.ne hb531 (by decide)
    have hnB : vB.ownBlock ≠ some g5 := hq31.2.ne hb531 (by decide)
    have hS : ∀ k, (k = g5 ∨ vR.ownBlock = some k ∨ vB.ownBlock = some k) → w3.heap.size ≤ k ∧ k < w31.heap.size := by
      rintro k (rfl | hk | hk)
      · exact ⟨hl5, hb531.lt⟩
      · exact hvR k hk
      · exact hvB k hk
    have hlen1 : i < n.hi.length := by omega
    have hlen2 : i < n.lo.length := by omega
    have hrng := hn1.rng i
    have hrng2 := hn2.rng i
    have fm : ∀ {w1 : World} {j : Nat}, PhB (fun k => k = g5 ∨ vR.ownBlock = some k ∨ vB.ownBlock = some k) g5 25 2 (0, w34) (j, w1) → Md (fun k => w3.heap.size ≤ k) w3 w1 := fun ht => hm34.trans (ht.md.mono fun k hk => (hS k hk).1)
    refine ⟨PhB (fun k => k = g5 ∨ vR.ownBlock = some k ∨ vB.ownBlock = some k) g5 25 2, fun l w' => match l with
        | [] => Rq L w3.heap.size w' vR vB mm rr ∧ Blk w' g5 25 [.int .i64 b.lp.vars, .slice oa b.lp.objs.length oc, vR, vB]
        | [a1] => Rq L w3.heap.size w' a1 vB (mm ++ [un]) rr ∧ Blk w' g5 25 [.int .i64 b.lp.vars, .slice oa b.lp.objs.length oc, vR, vB]
        | [a1, a2] => Rq L w3.heap.size w' a1 a2 (mm ++ [un]) (rr ++ [(iat n.hi i : Rat)]) ∧ Blk w' g5 25 [.int .i64 b.lp.vars, .slice oa b.lp.objs.length oc, vR, vB]
        | [a1, a2, _] => Rq L w3.heap.size w' a1 a2 (mm ++ [un]) (rr ++ [(iat n.hi i : Rat)]) ∧ Blk w' g5 25 [.int .i64 b.lp.vars, .slice oa b.lp.objs.length oc, a1, vB]
        | a1 :: a2 :: _ => Rq L w3.heap.size w' a1 a2 (mm ++ [un]) (rr ++ [(iat n.hi i : Rat)]) ∧ Blk w' g5 25 [.int .i64 b.lp.vars, .slice oa b.lp.objs.length oc, a1, a2],
      PhB.grow _ _ _ _, PhB.trans _ _ _ _, fun w' hg => ⟨hq34.grow hg, hb534.grow hg⟩,
      fun z _ => z = vR, fun z s' => s'.1 = 0 → ∃ t, One w34.heap.size 23 s'.2 z [t] ∧ VecO true 2 w31.heap.size s'.2 t un, fun _ _ => True, fun z _ => z = vB, fun z _ => z = hi, fun z _ => z = .int .i64 (iat n.hi i), fun z s' => QR true 2 s'.2 z (iat n.hi i : Rat),
      fun z s' => ∃ t : Value, One w34.heap.size 30 s'.2 z t.cells.toList ∧ QR true 2 s'.2 t (iat n.hi i : Rat), fun _ _ => True, fun _ _ => True, fun _ _ => True,
      ?_, ?_, ?_, ?_, ?_, ?_, ?_, ?_, ?_, ?_, ?_, ?_, ?_, ?_, ?_, ?_, ?_, ?_, ?_⟩
    any_goals ((try dsimp only [Fw, Fl]); intros; first | exact ⟨_, rfl⟩ | fail)
    · intro j w1 hn ht
      obtain ⟨rfl, hg⟩ := ht.z hn
      exact LoadP.fld (o := 2) (hb534.grow hg) ti22 rfl ⟨Grow.refl _, fun _ _ _ => rfl⟩
    · intro _ j w1 hn ht
      obtain ⟨rfl, hg⟩ := ht.z hn
      exact litV2 ((hu.grow hg).vec (by omega)) fun t w5 hg5 ho => ⟨hg5, fun m w6 ht hm => ⟨x36, (One.down ho hg.size).grow (ht.z (Nat.le_of_eq hm)).2, ((hu.grow hg).grow hg5).grow (ht.z (Nat.le_of_eq hm)).2⟩⟩
    · rintro _ _ j w1 hn ht rfl hL rfl h40
      obtain ⟨_, hg⟩ := ht.z (Nat.le_refl _)
      obtain ⟨t, ho, hut⟩ := h40 rfl
      obtain ⟨hLq, hLb⟩ := hL
      have zg := hg.size
      refine appV2 (C := CC) rfl hLq.1 ho (((hut.le (M := L) (by omega)).vec (by omega)).mono fun k _ hk e => by have := (hvB k e).2; omega) (by omega) (by omega) fun o' w' ho' hm hf => ?_
      exact ⟨PhB.next (hm.mono fun k hk => .inr (.inl hk)) fun _ cs hb => hb.md hm hnR, fun _ _ _ => trivial, fun w'' hg => ⟨(hLq.mat hm ho').grow hg, (hLb.md hm hnR).grow hg⟩⟩
    · intro _ _ _ j w1 hn ht
      exact LoadP.fld (o := 3) (ht.blk (by omega) hb534) ti23 rfl ⟨Grow.refl _, fun _ _ _ => rfl⟩
    · intro _ _ _ _ j w1 hn ht
      obtain ⟨-, hb2n, -, -, -, -⟩ := keep (fm ht)
      exact LoadP.fld (o := 1) hb2n ti102 rfl ⟨Grow.refl _, fun _ _ _ => rfl⟩
    · rintro _ _ _ _ _ j w1 hn ht rfl
      obtain ⟨-, -, -, -, hin, -⟩ := keep (fm ht)
      exact hin.idx hlen1
    · rintro _ _ _ _ v46 j w1 hn ht e46
      rw [e46]
      obtain ⟨-, -, -, -, hin, -⟩ := keep (fm ht)
      obtain ⟨ad, had⟩ := hin.idx hlen1
      have had' : indexAddrV (tyOf tyTab 102) hi (.int .i64 (i : Nat)) = some ad := had
      rw [had']
      exact hin.load ti2 had hlen1 ⟨Grow.refl _, fun _ _ _ => rfl⟩
    · rintro _ _ _ _ _ _ j w1 hn ht _ _ _ _ rfl
      exact fgT (q36 hrng2) fun r w5 m w6 hr ht => hr.md ht.md
    · intro _ _ _ _ _ _ v50 j w1 hn ht _ _ _ _ _ h50
      exact litQ h50 fun t w5 hg5 ho => ⟨hg5, fun m w6 ht' => ⟨v50, (One.down ho ht.md.size).md ht'.md fun k hk => by have := (hS k hk).2; omega, (h50.grow hg5).md ht'.md⟩⟩
    · rintro _ _ _ _ _ _ _ _ j w1 hn ht rfl hL _ _ _ _ e43 _ _ _ ⟨t, ho, hut⟩
      rw [e43]
      have zt := ht.md.size
      obtain ⟨hLq, hLb⟩ := hL
      refine appQ1 hLq.2 ho (hut.le (by omega)) (by omega) (by omega) fun o' w' ho' hm hf => ?_
      exact ⟨PhB.next (hm.mono fun k hk => .inr (.inr hk)) fun _ cs hb => hb.md hm hnB, fun _ _ _ => trivial, fun w'' hg => ⟨(hLq.right hm ho' hf).grow hg, (hLb.md hm hnB).grow hg⟩⟩
    · intro _ _ a1 _ _ _ _ _ a2 j w1 hn ht e hL
      subst e
      intros
      obtain ⟨hLq, hLb⟩ := hL
      refine StoreP.one (C := CC) (o := 2) ti22 hLb hLq.1.one (by simp) fun w' hu' hb' => ?_
      have hm := Md.of hu' hLb (by decide)
      exact ⟨PhB.next (hm.mono fun k hk => .inl hk) (fun h => by omega), fun _ _ _ => trivial, fun w'' hg => ⟨(hLq.head hLb hm).grow hg, hb'.grow hg⟩⟩
    · intro _ _ a1 _ _ _ _ _ a2 _ j w1 hn ht e hL
      subst e
      intros
      obtain ⟨hLq, hLb⟩ := hL
      refine StoreP.one (C := CC) (o := 3) ti23 hLb hLq.2.one (by simp) fun w' hu' hb' => ?_
      have hm := Md.of hu' hLb (by decide)
      exact ⟨PhB.next (hm.mono fun k hk => .inl hk) (fun h => by omega), fun _ _ _ => trivial, fun w'' hg => ⟨(hLq.head hLb hm).grow hg, hb'.grow hg⟩⟩
    rintro _ _ vR1 _ _ _ _ _ vB1 _ _ _ w64 ht
    intros
    rename_i hL
    obtain ⟨hq64, hb64⟩ := hL
    have hm64 := fm ht
    have hu64 : VecO true 2 w31.heap.size w64 x36 un := hu.md ht.md fun k hk hs => by have := (hub k hk).1; have := (hS k hs).2; omega
    obtain ⟨-, hb264, -, hlo64, -, -⟩ := keep hm64
    have z64 := ht.md.size
    obtain ⟨ad59, had59⟩ := hlo64.idx hlen2
    refine px rfl (px rfl (LoadP.fld (o := 0) hb264 ti102 rfl (px had59 (hlo64.load ti2 had59 hlen2 (px rfl (cD (fun hpos => ?_) (fun hnp => ?_)))))))
    · rw [if_pos hpos] at hna
      have hneg : gd (unV .neg (.int .i64 (iat n.lo i))) = .int .i64 (- iat n.lo i) := by
        show Value.int .i64 (IntKind.i64.wrap (0 - iat n.lo i)) = _
        rw [wrap_i64 (by omega), Int.zero_sub]
      obtain ⟨mm1, hmm1⟩ : ∃ mm1, mm1 = mm ++ [un] := ⟨_, rfl⟩
      obtain ⟨rr1, hrr1⟩ : ∃ rr1, rr1 = rr ++ [(iat n.hi i : Rat)] := ⟨_, rfl⟩
      rw [← hmm1, ← hrr1] at hq64
      have hml1 : mm1.length ≤ 1001 := by rw [hmm1]; simp; omega
      have hrl1 : rr1.length ≤ 1001 := by rw [hrr1]; simp; omega
      have hvR1 := hq64.1.block
      have hvB1 := hq64.2.block
      have hnR1 : vR1.ownBlock ≠ some g5 := hq64.1.ne hb64 (by decide)
      have hnB1 : vB1.ownBlock ≠ some g5 := hq64.2.ne hb64 (by decide)
      have hS1 : ∀ k, (k = g5 ∨ vR1.ownBlock = some k ∨ vB1.ownBlock = some k) → w3.heap.size ≤ k ∧ k < w64.heap.size := by
        rintro k (rfl | hk | hk)
        · exact ⟨hl5, hb64.lt⟩
        · exact hvR1 k hk
        · exact hvB1 k hk
      have fm1 : ∀ {w1 : World} {j : Nat}, PhB (fun k => k = g5 ∨ vR1.ownBlock = some k ∨ vB1.ownBlock = some k) g5 25 2 (0, w64) (j, w1) → Md (fun k => w3.heap.size ≤ k) w3 w1 := fun ht => hm64.trans (ht.md.mono fun k hk => (hS1 k hk).1)
      refine ⟨PhB (fun k => k = g5 ∨ vR1.ownBlock = some k ∨ vB1.ownBlock = some k) g5 25 2, fun l w' => match l with
          | [] => Rq L w3.heap.size w' vR1 vB1 mm1 rr1 ∧ Blk w' g5 25 [.int .i64 b.lp.vars, .slice oa b.lp.objs.length oc, vR1, vB1]
          | [a1] => Rq L w3.heap.size w' a1 vB1 (mm1 ++ [vscale (-1) un]) rr1 ∧ Blk w' g5 25 [.int .i64 b.lp.vars, .slice oa b.lp.objs.length oc, vR1, vB1]
          | [a1, a2] => Rq L w3.heap.size w' a1 a2 (mm1 ++ [vscale (-1) un]) (rr1 ++ [((- iat n.lo i : Int) : Rat)]) ∧ Blk w' g5 25 [.int .i64 b.lp.vars, .slice oa b.lp.objs.length oc, vR1, vB1]
          | [a1, a2, _] => Rq L w3.heap.size w' a1 a2 (mm1 ++ [vscale (-1) un]) (rr1 ++ [((- iat n.lo i : Int) : Rat)]) ∧ Blk w' g5 25 [.int .i64 b.lp.vars, .slice oa b.lp.objs.length oc, a1, vB1]
          | a1 :: a2 :: _ => Rq L w3.heap.size w' a1 a2 (mm1 ++ [vscale (-1) un]) (rr1 ++ [((- iat n.lo i : Int) : Rat)]) ∧ Blk w' g5 25 [.int .i64 b.lp.vars, .slice oa b.lp.objs.length oc, a1, a2],
        PhB.grow _ _ _ _, PhB.trans _ _ _ _, fun w' hg => ⟨hq64.grow hg, hb64.grow hg⟩,
        fun z _ => z = vR1, fun z s' => QR true 2 s'.2 z (-1), fun z s' => s'.1 = 0 → VecO true 7 w64.heap.size s'.2 z (vscale (-1) un), fun z s' => s'.1 = 0 → ∃ t, One w64.heap.size 23 s'.2 z [t] ∧ VecO true 7 w64.heap.size s'.2 t (vscale (-1) un), fun _ _ => True, fun z _ => z = vB1, fun z _ => z = lo, fun z _ => z = .int .i64 (iat n.lo i), fun z s' => QR true 2 s'.2 z ((- iat n.lo i : Int) : Rat),
        fun z s' => ∃ t : Value, One w64.heap.size 30 s'.2 z t.cells.toList ∧ QR true 2 s'.2 t ((- iat n.lo i : Int) : Rat), fun _ _ => True, fun _ _ => True, fun _ _ => True,
        ?_, ?_, ?_, ?_, ?_, ?_, ?_, ?_, ?_, ?_, ?_, ?_, ?_, ?_, ?_, ?_, ?_, ?_, ?_, ?_, ?_, ?_⟩
      any_goals ((try dsimp only [Fw, Fl]); intros; first | exact ⟨_, rfl⟩ | fail)
      · intro j w1 hn ht
        obtain ⟨rfl, hg⟩ := ht.z hn
        exact LoadP.fld (o := 2) (hb64.grow hg) ti22 rfl ⟨Grow.refl _, fun _ _ _ => rfl⟩
      · intro _ j w1 hn ht
        exact fgT (q36 (n := -1) (by decide)) fun r w5 m w6 hr ht => hr.md ht.md
      · intro _ v64 j w1 hn ht h64
        obtain ⟨rfl, hg⟩ := ht.z hn
        refine fgT (c104 h64 ((hu64.grow hg).vec (by omega)) (by decide) (by decide) (by omega) (by omega)) fun r w5 m w6 hr ht hm => ?_
        exact (hr.down hg.size).grow (ht.z (Nat.le_of_eq hm)).2
      · rintro _ _ v66 j w1 hn ht _ h66
        obtain ⟨rfl, hg⟩ := ht.z hn
        exact litV2 ((h66 rfl).vec (by rw [Lx.vscale_length]; omega)) fun t w5 hg5 ho => ⟨hg5, fun m w6 ht hm => ⟨v66, (One.down ho hg.size).grow (ht.z (Nat.le_of_eq hm)).2, ((h66 rfl).grow hg5).grow (ht.z (Nat.le_of_eq hm)).2⟩⟩
      · rintro _ _ _ _ j w1 hn ht rfl hL e63 _ _ h67
        rw [e63]
        obtain ⟨_, hg⟩ := ht.z (Nat.le_refl _)
        obtain ⟨t, ho, hut⟩ := h67 rfl
        obtain ⟨hLq, hLb⟩ := hL
        have zg := hg.size
        refine appV2 (C := CC) rfl hLq.1 ho (((hut.le (M := L) (by omega)).vec (by rw [Lx.vscale_length]; omega)).mono fun k _ hk e => by have := (hvB1 k e).2; omega) (by omega) (by omega) fun o' w' ho' hm hf => ?_
        exact ⟨PhB.next (hm.mono fun k hk => .inr (.inl hk)) fun _ cs hb => hb.md hm hnR1, fun _ _ _ => trivial, fun w'' hg => ⟨(hLq.mat hm ho').grow hg, (hLb.md hm hnR1).grow hg⟩⟩
      · intro _ _ _ _ _ j w1 hn ht
        exact LoadP.fld (o := 3) (ht.blk (by omega) hb64) ti23 rfl ⟨Grow.refl _, fun _ _ _ => rfl⟩
      · intro _ _ _ _ _ _ j w1 hn ht
        obtain ⟨-, hb2n, -, -, -, -⟩ := keep (fm1 ht)
        exact LoadP.fld (o := 0) hb2n ti102 rfl ⟨Grow.refl _, fun _ _ _ => rfl⟩
      · rintro _ _ _ _ _ _ v73 j w1 hn ht e73
        rw [e73]
        obtain ⟨-, -, -, hin, -, -⟩ := keep (fm1 ht)
        exact hin.idx hlen2
      · rintro _ _ _ _ _ _ v73 j w1 hn ht e73
        rw [e73]
        obtain ⟨-, -, -, hin, -, -⟩ := keep (fm1 ht)
        obtain ⟨ad, had⟩ := hin.idx hlen2
        have had' : indexAddrV (tyOf tyTab 102) lo (.int .i64 (i : Nat)) = some ad := had
        rw [had']
        exact hin.load ti2 had hlen2 ⟨Grow.refl _, fun _ _ _ => rfl⟩
      · rintro _ _ _ _ _ _ _ v76 j w1 hn ht _ e76
        rw [e76]; exact ⟨_, rfl⟩
      · rintro _ _ _ _ _ _ _ v76 j w1 hn ht _ _ _ _ _ _ e76
        rw [e76, hneg]
        exact fgT (q36 (by omega)) fun r w5 m w6 hr ht => hr.md ht.md
      · intro _ _ _ _ _ _ _ _ v78 j w1 hn ht _ _ _ _ _ _ _ h78
        exact litQ h78 fun t w5 hg5 ho => ⟨hg5, fun m w6 ht' => ⟨v78, (One.down ho ht.md.size).md ht'.md fun k hk => (hS1 k hk).2, (h78.grow hg5).md ht'.md⟩⟩
      · rintro _ _ _ _ _ _ _ _ _ _ j w1 hn ht rfl hL _ _ _ _ _ _ e70 _ _ _ ⟨t, ho, hut⟩
        rw [e70]
        have zt := ht.md.size
        obtain ⟨hLq, hLb⟩ := hL
        refine appQ1 hLq.2 ho (hut.le (by omega)) (by omega) (by omega) fun o' w' ho' hm hf => ?_
        exact ⟨PhB.next (hm.mono fun k hk => .inr (.inr hk)) fun _ cs hb => hb.md hm hnB1, fun _ _ _ => trivial, fun w'' hg => ⟨(hLq.right hm ho' hf).grow hg, (hLb.md hm hnB1).grow hg⟩⟩
      · intro _ _ _ _ a1 _ _ _ _ _ a2 j w1 hn ht e hL
        subst e
        intros
        obtain ⟨hLq, hLb⟩ := hL
        refine StoreP.one (C := CC) (o := 2) ti22 hLb hLq.1.one (by simp) fun w' hu' hb' => ?_
        have hm := Md.of hu' hLb (by decide)
        exact ⟨PhB.next (hm.mono fun k hk => .inl hk) (fun h => by omega), fun _ _ _ => trivial, fun w'' hg => ⟨(hLq.head hLb hm).grow hg, hb'.grow hg⟩⟩
      · intro _ _ _ _ a1 _ _ _ _ _ a2 _ j w1 hn ht e hL
        subst e
        intros
        obtain ⟨hLq, hLb⟩ := hL
        refine StoreP.one (C := CC) (o := 3) ti23 hLb hLq.2.one (by simp) fun w' hu' hb' => ?_
        have hm := Md.of hu' hLb (by decide)
        exact ⟨PhB.next (hm.mono fun k hk => .inl hk) (fun h => by omega), fun _ _ _ => trivial, fun w'' hg => ⟨(hLq.head hLb hm).grow hg, hb'.grow hg⟩⟩
      rintro _ _ _ _ vR2 _ _ _ _ _ vB2 _ _ _ w101 ht
      intros
      rename_i hL
      obtain ⟨hq101, hb101⟩ := hL
      have hm101 := fm1 ht
      refine pi rfl (by omega) ⟨⟨i + 1, vR2, vB2, by simp, by omega, hm101, hb101, ?_⟩, by simp only [vint_int]; omega⟩
      have e1 : rowsAt b n (i + 1) = mm1 ++ [vscale (-1) un] := by rw [hmm1, hmm]; unfold rowsAt; rw [nodeAll_succ, hna]; simp
      have e2 : bndsAt b n (i + 1) = rr1 ++ [((- iat n.lo i : Int) : Rat)] := by rw [hrr1, hrr]; unfold bndsAt; rw [nodeAll_succ, hna]; simp
      rw [e1, e2]; exact hq101
    · have hnp' : ¬ 0 < iat n.lo i := by omega
      rw [if_neg hnp'] at hna
      refine pi rfl (by omega) ⟨⟨i + 1, vR1, vB1, by simp, by omega, hm64, hb64, ?_⟩, by simp only [vint_int]; omega⟩
      have e1 : rowsAt b n (i + 1) = mm ++ [un] := by rw [hmm]; unfold rowsAt; rw [nodeAll_succ, hna]; simp
      have e2 : bndsAt b n (i + 1) = rr ++ [(iat n.hi i : Rat)] := by rw [hrr]; unfold bndsAt; rw [nodeAll_succ, hna]; simp
      rw [e1, e2]; exact hq64
  · have ei : i = b.bin.length := by omega
    rw [ei] at hq31
    have hone : ∀ t ∈ [Value.int .i64 b.lp.vars, .slice oa b.lp.objs.length oc, vR, vB], t.oneCell' = true := by
      intro t ht
      simp only [List.mem_cons, List.not_mem_nil, or_false] at ht
      rcases ht with rfl | rfl | rfl | rfl
      · rfl
      · rfl
      · exact hq31.1.one
      · exact hq31.2.one
    refine LoadP.row (C := CC) ti25 hb531 rfl ?_
    refine StoreP.row (C := CC) (cs := [.int .i64 b.lp.vars, .slice oa b.lp.objs.length oc, vR, vB]) hb431 ti25 rfl rfl hone fun w103 hu103 hb103 => ?_
    have hm103 : Md (fun k => k = g4) w31 w103 := Md.of hu103 hb431 (by decide)
    have hml : (rowsAt b n b.bin.length).length ≤ 1000 := by unfold rowsAt; have := nodeAll_len (b := b) (n := n) (k := b.bin.length); simp; omega
    have hrl : (bndsAt b n b.bin.length).length ≤ 1000 := by unfold bndsAt; have := nodeAll_len (b := b) (n := n) (k := b.bin.length); simp; omega
    have hq103 := hq31.head hb431 hm103
    have hg103 : Grow w w103 := Md.new (hg1.trans hg2) ((Md.grow hg3).trans ((hm31.mono (S' := fun k => w2.heap.size ≤ k) fun k hk => by omega).trans (hm103.mono fun k hk => by omega))) fun k hk => by omega
    refine ⟨_, _, rfl, res_row (P := CC.P) ti25 hb103 rfl, hg103, _, _, _, rfl, (hoO31.md hm103 (fun k hk => by omega) (fun k hk => by omega)).mono (fun _ _ _ => trivial) fun _ _ _ => trivial, (hq103.1.mat (by omega)).mono (fun _ _ _ => trivial) fun _ _ _ => trivial, (hq103.2.vec (by omega)).mono fun _ _ _ => trivial, hlim⟩
end
end Go.Proofs.YtaajkcngcalgoaaGreat
set_option maxRecDepth 100000
set_option linter.unusedVariables false
namespace Go.Proofs.YtaajkcngcalgoaaGreat
open Go Go.Vc
def V111 (a0 a1 : Value) (w : World) (R : Value → World → Prop) : Prop :=
  BoxP CC 154 a0 w fun x2 w_1 =>
  AllocP CC 154 w_1 fun x4 w_2 =>
  AllocP CC 154 w_2 fun x5 w_3 =>
  ∃ (T : Nat × World → Nat × World → Prop) (L : List Value → World → Prop), Hg T ∧ Ht T ∧ Hl L w_3 ∧
  ∃ A8 A9 A12 A13 A16 As13 : Value → Nat × World → Prop,
  (Fl T w_3 0 fun n z => (Is (fieldAddrV (τ 154) 0 x2))) ∧
  (Fl T w_3 0 fun n z => (Is (fieldAddrV (τ 152) 0 (gd (fieldAddrV (τ 154) 0 x2))))) ∧
  (Fl T w_3 0 fun n z => (LoadP CC 102 (gd (fieldAddrV (τ 152) 0 (gd (fieldAddrV (τ 154) 0 x2)))) z (Gk T A8 n z))) ∧
  (∀ v8 : Value, Fl T w_3 1 fun n z => n = 0 → L [] z → A8 v8 (n, z) → CallP CC 176 [v8] z fun x y => Gl T L A9 n z [x] x y) ∧
  (∀ v8 v9 : Value, Fl T w_3 1 fun n z => (Is (fieldAddrV (τ 154) 0 x2))) ∧
  (∀ v8 v9 : Value, Fl T w_3 1 fun n z => (Is (fieldAddrV (τ 152) 1 (gd (fieldAddrV (τ 154) 0 x2))))) ∧
  (∀ v8 v9 : Value, Fl T w_3 1 fun n z => (LoadP CC 102 (gd (fieldAddrV (τ 152) 1 (gd (fieldAddrV (τ 154) 0 x2)))) z (Gk T A12 n z))) ∧
  (∀ v8 v9 v12 : Value, Fl T w_3 2 fun n z => n = 1 → L [v9] z → A8 v8 (n, z) → A9 v9 (n, z) → A12 v12 (n, z) → CallP CC 176 [v12] z fun x y => Gl T L A13 n z [v9, x] x y) ∧
  (∀ v8 v9 v12 v13 : Value, Fl T w_3 2 fun n z => A8 v8 (n, z) → A9 v9 (n, z) → A12 v12 (n, z) → A13 v13 (n, z) → (Is (buildV (τ 152) [(0, v9), (1, v13)]))) ∧
  (∀ v8 v9 v12 v13 : Value, Fl T w_3 2 fun n z => (Is (fieldAddrV (τ 154) 1 x2))) ∧
  (∀ v8 v9 v12 v13 : Value, Fl T w_3 2 fun n z => (LoadP CC 3 (gd (fieldAddrV (τ 154) 1 x2)) z (Gk T A16 n z))) ∧
  (∀ v8 v9 v12 v13 v16 : Value, Fl T w_3 2 fun n z => A16 v16 (n, z) → (Is (binV (.int .i64) .add v16 (.int .i64 1)))) ∧
  (∀ v8 v9 v12 v13 v16 : Value, Fl T w_3 2 fun n z => A8 v8 (n, z) → A9 v9 (n, z) → A12 v12 (n, z) → A13 v13 (n, z) → A16 v16 (n, z) → (Is (buildV (τ 154) [(0, (gd (buildV (τ 152) [(0, v9), (1, v13)]))), (1, (gd (binV (.int .i64) .add v16 (.int .i64 1))))]))) ∧
  (∀ v8 v9 v12 v13 v16 : Value, Fl T w_3 3 fun n z => n = 2 → L [v9, v13] z → A8 v8 (n, z) → A9 v9 (n, z) → A12 v12 (n, z) → A13 v13 (n, z) → A16 v16 (n, z) → StoreP CC 154 x4 (gd (buildV (τ 154) [(0, (gd (buildV (τ 152) [(0, v9), (1, v13)]))), (1, (gd (binV (.int .i64) .add v16 (.int .i64 1))))])) z fun y => Gl T L As13 n z [v9, v13, x4] undef y) ∧
  ∀ v8 v9 v12 v13 v16 vs13 : Value, ∀ (h : Nat → Value) (w_4 : World), T (0, w_3) (3, w_4) → A8 v8 (3, w_4) → A9 v9 (3, w_4) → A12 v12 (3, w_4) → A13 v13 (3, w_4) → A16 v16 (3, w_4) → As13 vs13 (3, w_4) → L [v9, v13, x4] w_4 → 
  ∃ (T_1 : Nat × World → Nat × World → Prop) (L_1 : List Value → World → Prop), Hg T_1 ∧ Ht T_1 ∧ Hl L_1 w_4 ∧
  ∃ A21 A22 A25 A26 A29 As13_1 : Value → Nat × World → Prop,
  (Fl T_1 w_4 0 fun n z => (Is (fieldAddrV (τ 154) 0 x2))) ∧
  (Fl T_1 w_4 0 fun n z => (Is (fieldAddrV (τ 152) 0 (gd (fieldAddrV (τ 154) 0 x2))))) ∧
  (Fl T_1 w_4 0 fun n z => (LoadP CC 102 (gd (fieldAddrV (τ 152) 0 (gd (fieldAddrV (τ 154) 0 x2)))) z (Gk T_1 A21 n z))) ∧
  (∀ v21 : Value, Fl T_1 w_4 1 fun n z => n = 0 → L_1 [] z → A21 v21 (n, z) → CallP CC 176 [v21] z fun x y => Gl T_1 L_1 A22 n z [x] x y) ∧
  (∀ v21 v22 : Value, Fl T_1 w_4 1 fun n z => (Is (fieldAddrV (τ 154) 0 x2))) ∧
  (∀ v21 v22 : Value, Fl T_1 w_4 1 fun n z => (Is (fieldAddrV (τ 152) 1 (gd (fieldAddrV (τ 154) 0 x2))))) ∧
  (∀ v21 v22 : Value, Fl T_1 w_4 1 fun n z => (LoadP CC 102 (gd (fieldAddrV (τ 152) 1 (gd (fieldAddrV (τ 154) 0 x2)))) z (Gk T_1 A25 n z))) ∧
  (∀ v21 v22 v25 : Value, Fl T_1 w_4 2 fun n z => n = 1 → L_1 [v22] z → A21 v21 (n, z) → A22 v22 (n, z) → A25 v25 (n, z) → CallP CC 176 [v25] z fun x y => Gl T_1 L_1 A26 n z [v22, x] x y) ∧
  (∀ v21 v22 v25 v26 : Value, Fl T_1 w_4 2 fun n z => A21 v21 (n, z) → A22 v22 (n, z) → A25 v25 (n, z) → A26 v26 (n, z) → (Is (buildV (τ 152) [(0, v22), (1, v26)]))) ∧
  (∀ v21 v22 v25 v26 : Value, Fl T_1 w_4 2 fun n z => (Is (fieldAddrV (τ 154) 1 x2))) ∧
  (∀ v21 v22 v25 v26 : Value, Fl T_1 w_4 2 fun n z => (LoadP CC 3 (gd (fieldAddrV (τ 154) 1 x2)) z (Gk T_1 A29 n z))) ∧
  (∀ v21 v22 v25 v26 v29 : Value, Fl T_1 w_4 2 fun n z => A29 v29 (n, z) → (Is (binV (.int .i64) .add v29 (.int .i64 1)))) ∧
  (∀ v21 v22 v25 v26 v29 : Value, Fl T_1 w_4 2 fun n z => A21 v21 (n, z) → A22 v22 (n, z) → A25 v25 (n, z) → A26 v26 (n, z) → A29 v29 (n, z) → (Is (buildV (τ 154) [(0, (gd (buildV (τ 152) [(0, v22), (1, v26)]))), (1, (gd (binV (.int .i64) .add v29 (.int .i64 1))))]))) ∧
  (∀ v21 v22 v25 v26 v29 : Value, Fl T_1 w_4 3 fun n z => n = 2 → L_1 [v22, v26] z → A21 v21 (n, z) → A22 v22 (n, z) → A25 v25 (n, z) → A26 v26 (n, z) → A29 v29 (n, z) → StoreP CC 154 x5 (gd (buildV (τ 154) [(0, (gd (buildV (τ 152) [(0, v22), (1, v26)]))), (1, (gd (binV (.int .i64) .add v29 (.int .i64 1))))])) z fun y => Gl T_1 L_1 As13_1 n z [v22, v26, x5] undef y) ∧
  ∀ v21 v22 v25 v26 v29 vs13_1 : Value, ∀ (h_1 : Nat → Value) (w_5 : World), T_1 (0, w_4) (3, w_5) → A21 v21 (3, w_5) → A22 v22 (3, w_5) → A25 v25 (3, w_5) → A26 v26 (3, w_5) → A29 v29 (3, w_5) → As13_1 vs13_1 (3, w_5) → L_1 [v22, v26, x5] w_5 → 
  ∃ (T_2 : Nat × World → Nat × World → Prop) (L_2 : List Value → World → Prop), Hg T_2 ∧ Ht T_2 ∧ Hl L_2 w_5 ∧
  ∃ A34 A38 As9 As11 : Value → Nat × World → Prop,
  (Fl T_2 w_5 0 fun n z => (Is (fieldAddrV (τ 154) 0 x4))) ∧
  (Fl T_2 w_5 0 fun n z => (Is (fieldAddrV (τ 152) 1 (gd (fieldAddrV (τ 154) 0 x4))))) ∧
  (Fl T_2 w_5 0 fun n z => (LoadP CC 102 (gd (fieldAddrV (τ 152) 1 (gd (fieldAddrV (τ 154) 0 x4)))) z (Gk T_2 A34 n z))) ∧
  (∀ v34 : Value, Fl T_2 w_5 1 fun n z => (Is (fieldAddrV (τ 154) 0 x5))) ∧
  (∀ v34 : Value, Fl T_2 w_5 1 fun n z => (Is (fieldAddrV (τ 152) 0 (gd (fieldAddrV (τ 154) 0 x5))))) ∧
  (∀ v34 : Value, Fl T_2 w_5 1 fun n z => (LoadP CC 102 (gd (fieldAddrV (τ 152) 0 (gd (fieldAddrV (τ 154) 0 x5)))) z (Gk T_2 A38 n z))) ∧
  (∀ v34 v38 : Value, Fl T_2 w_5 0 fun n z => A34 v34 (n, z) → (Is (indexAddrV (τ 102) v34 a1))) ∧
  (∀ v34 v38 : Value, Fl T_2 w_5 1 fun n z => n = 0 → L_2 [] z → A34 v34 (n, z) → StoreP CC 2 (gd (indexAddrV (τ 102) v34 a1)) (.int .i64 0) z fun y => Gl T_2 L_2 As9 n z [(gd (indexAddrV (τ 102) v34 a1))] undef y) ∧
  (∀ v34 v38 vs9 : Value, Fl T_2 w_5 1 fun n z => A34 v34 (n, z) → A38 v38 (n, z) → As9 vs9 (n, z) → (Is (indexAddrV (τ 102) v38 a1))) ∧
  (∀ v34 v38 vs9 : Value, Fl T_2 w_5 2 fun n z => n = 1 → L_2 [(gd (indexAddrV (τ 102) v34 a1))] z → A34 v34 (n, z) → A38 v38 (n, z) → As9 vs9 (n, z) → StoreP CC 2 (gd (indexAddrV (τ 102) v38 a1)) (.int .i64 1) z fun y => Gl T_2 L_2 As11 n z [(gd (indexAddrV (τ 102) v34 a1)), (gd (indexAddrV (τ 102) v38 a1))] undef y) ∧
  ∀ v34 v38 vs9 vs11 : Value, ∀ (h_2 : Nat → Value) (w_6 : World), T_2 (0, w_5) (2, w_6) → A34 v34 (2, w_6) → A38 v38 (2, w_6) → As9 vs9 (2, w_6) → As11 vs11 (2, w_6) → L_2 [(gd (indexAddrV (τ 102) v34 a1)), (gd (indexAddrV (τ 102) v38 a1))] w_6 → 
  ∃ (T_3 : Nat × World → Nat × World → Prop) (L_3 : List Value → World → Prop), Hg T_3 ∧ Ht T_3 ∧ Hl L_3 w_6 ∧
  ∃ A42 A43 As2 As3 : Value → Nat × World → Prop,
  (Fl T_3 w_6 0 fun n z => (LoadP CC 154 x4 z (Gk T_3 A42 n z))) ∧
  (∀ v42 : Value, Fl T_3 w_6 1 fun n z => (LoadP CC 154 x5 z (Gk T_3 A43 n z))) ∧
  (∀ v42 v43 : Value, Fl T_3 w_6 1 fun n z => n = 0 → L_3 [] z → A42 v42 (n, z) → StoreP CC 154 x4 v42 z fun y => Gl T_3 L_3 As2 n z [x4] undef y) ∧
  (∀ v42 v43 vs2 : Value, Fl T_3 w_6 2 fun n z => n = 1 → L_3 [x4] z → A42 v42 (n, z) → A43 v43 (n, z) → As2 vs2 (n, z) → StoreP CC 154 x5 v43 z fun y => Gl T_3 L_3 As3 n z [x4, x5] undef y) ∧
  ∀ v42 v43 vs2 vs3 : Value, ∀ (h_3 : Nat → Value) (w_7 : World), T_3 (0, w_6) (2, w_7) → A42 v42 (2, w_7) → A43 v43 (2, w_7) → As2 vs2 (2, w_7) → As3 vs3 (2, w_7) → L_3 [x4, x5] w_7 → 
  ∃ ad r, x4 = .pointer (some ad) ∧ (loadVar 154 ad).run CC.P w_7 = .ok r w_7 ∧
  ∃ ad_1 r_1, x5 = .pointer (some ad_1) ∧ (loadVar 154 ad_1).run CC.P w_7 = .ok r_1 w_7 ∧
  R (.tuple #[r, r_1]) w_7
theorem V111_eq (a0 a1 : Value) (w : World) (R : Value → World → Prop) : V111 a0 a1 w R = FnP CC { keep := fun _ => [], lin := fun | 1 => [3, 7, 13] | 2 => [3, 7, 13] | 3 => [9, 11] | 4 => [2, 3] | _ => [] } Tryz.f111 [a0, a1] w R := by kernel_rfl
theorem call111 {a0 a1 : Value} {w : World} {R : Value → World → Prop} (h : V111 a0 a1 w R) : CallP CC 111 [a0, a1] w R :=
  call_of_vc CC.ok _ Tryz.func111 (V111_eq a0 a1 w R ▸ h)
def V109 (a0 a1 a2 a3 : Value) (w : World) (R : Value → World → Prop) : Prop :=
  ∃ A6 A9 A11 A14 A15 : Value → World → Prop,
  (Fw Grow w fun z => (LoadP CC 4 a1 z (Gw Grow A6 z))) ∧
  (∀ v6 : Value, Fw Grow w fun z => A6 v6 z → (v6 = .bool true → (Is (fieldAddrV (τ 69) 0 a2)))) ∧
  (∀ v6 : Value, Fw Grow w fun z => A6 v6 z → (v6 = .bool true → (LoadP CC 25 (gd (fieldAddrV (τ 69) 0 a2)) z (Gw Grow A9 z)))) ∧
  (∀ v6 v9 : Value, Fw Grow w fun z => A6 v6 z → (v6 = .bool true → (LoadP CC 147 a3 z (Gw Grow A11 z)))) ∧
  (∀ v6 v9 v11 : Value, Fw Grow w fun z => A6 v6 z → (v6 = .bool true → A11 v11 z) → (v6 = .bool true → (Is (nilV v11)))) ∧
  (∀ v6 v9 v11 : Value, Fw Grow w fun z => A6 v6 z → (v6 = .bool true → A11 v11 z) → (v6 = .bool true → (Is (fieldAddrV (τ 150) 0 (gd (nilV v11)))))) ∧
  (∀ v6 v9 v11 : Value, Fw Grow w fun z => A6 v6 z → (v6 = .bool true → A11 v11 z) → (v6 = .bool true → (LoadP CC 23 (gd (fieldAddrV (τ 150) 0 (gd (nilV v11)))) z (Gw Grow A14 z)))) ∧
  (∀ v6 v9 v11 v14 : Value, Fw Grow w fun z => A6 v6 z → (v6 = .bool true → A9 v9 z) → (v6 = .bool true → A11 v11 z) → (v6 = .bool true → A14 v14 z) → (v6 = .bool true → (CallP CC 29 [v9, a0, v14] z (Gw Grow A15 z)))) ∧
  (∀ v6 v9 v11 v14 v15 : Value, Fw Grow w fun z => A6 v6 z → (v6 = .bool true → A9 v9 z) → (v6 = .bool true → A11 v11 z) → (v6 = .bool true → A14 v14 z) → (v6 = .bool true → A15 v15 z) → (v6 = .bool true → (Is (binV (.int .i64) .leq v15 (.int .i64 0))))) ∧
  (∀ v6 v9 v11 v14 v15 : Value, Fw Grow w fun z => A6 v6 z → (v6 = .bool true → A9 v9 z) → (v6 = .bool true → A11 v11 z) → (v6 = .bool true → A14 v14 z) → (v6 = .bool true → A15 v15 z) → (Is (pickV v6 (gd (binV (.int .i64) .leq v15 (.int .i64 0))) (.bool false)))) ∧
  ∀ v6 v9 v11 v14 v15 : Value, ∀ (h : Nat → Value) (w_1 : World), Grow w w_1 → A6 v6 w_1 → (v6 = .bool true → A9 v9 w_1) → (v6 = .bool true → A11 v11 w_1) → (v6 = .bool true → A14 v14 w_1) → (v6 = .bool true → A15 v15 w_1) → 
  R (gd (pickV v6 (gd (binV (.int .i64) .leq v15 (.int .i64 0))) (.bool false))) w_1
theorem V109_eq (a0 a1 a2 a3 : Value) (w : World) (R : Value → World → Prop) : V109 a0 a1 a2 a3 w R = FnP CC { keep := fun _ => [], lin := fun _ => [] } Tryz.f109 [a0, a1, a2, a3] w R := by kernel_rfl
theorem call109 {a0 a1 a2 a3 : Value} {w : World} {R : Value → World → Prop} (h : V109 a0 a1 a2 a3 w R) : CallP CC 109 [a0, a1, a2, a3] w R :=
  call_of_vc CC.ok _ Tryz.func109 (V109_eq a0 a1 a2 a3 w R ▸ h)
def V51 (a0 : Value) (w : World) (R : Value → World → Prop) : Prop :=
  BoxP CC 69 a0 w fun x1 w_1 =>
  LoadP CC 69 x1 w_1 fun x20 w_2 =>
  CallP CC 54 [x20] w_2 fun x21 w_3 =>
  ∃ x22, unV .not x21 = some x22 ∧
  CondP x22 (
    R (.tuple #[(.slice none 0 0), (.int .i64 0), (.int .i64 1)]) w_3) (
    ∃ x23, buildV (τ 150) [] = some x23 ∧
    BoxP CC 150 x23 w_3 fun x24 w_4 =>
    AllocP CC 147 w_4 fun x5 w_5 =>
    StoreP CC 147 x5 x24 w_5 fun w_6 =>
    AllocP CC 4 w_6 fun x6 w_7 =>
    StoreP CC 4 x6 (.bool false) w_7 fun w_8 =>
    LoadP CC 147 x5 w_8 fun x25 w_9 =>
    ∃ x26, some (Value.func (.func 109) #[] #[x6, x1, x5]) = some x26 ∧
    ∃ x27, nilV x25 = some x27 ∧
    ∃ x28, fieldAddrV (τ 150) 1 x27 = some x28 ∧
    StoreP CC 148 x28 x26 w_9 fun w_10 =>
    ∃ (T : Nat × World → Nat × World → Prop) (L : List Value → World → Prop), Hg T ∧ Ht T ∧ Hl L w_10 ∧
    ∃ A30 A32 A34 A36 A7 As11 : Value → Nat × World → Prop,
    (Fl T w_10 0 fun n z => (Is (fieldAddrV (τ 69) 1 x1))) ∧
    (Fl T w_10 0 fun n z => (LoadP CC 67 (gd (fieldAddrV (τ 69) 1 x1)) z (Gk T A30 n z))) ∧
    (∀ v30 : Value, Fl T w_10 0 fun n z => A30 v30 (n, z) → (Is (lenV (τ 67) v30))) ∧
    (∀ v30 : Value, Fl T w_10 0 fun n z => A30 v30 (n, z) → (MakeP CC 102 (gd (lenV (τ 67) v30)) (gd (lenV (τ 67) v30)) z (Gk T A32 n z))) ∧
    (∀ v30 v32 : Value, Fl T w_10 0 fun n z => (Is (fieldAddrV (τ 69) 1 x1))) ∧
    (∀ v30 v32 : Value, Fl T w_10 0 fun n z => (LoadP CC 67 (gd (fieldAddrV (τ 69) 1 x1)) z (Gk T A34 n z))) ∧
    (∀ v30 v32 v34 : Value, Fl T w_10 0 fun n z => A34 v34 (n, z) → (Is (lenV (τ 67) v34))) ∧
    (∀ v30 v32 v34 : Value, Fl T w_10 0 fun n z => A34 v34 (n, z) → (MakeP CC 102 (gd (lenV (τ 67) v34)) (gd (lenV (τ 67) v34)) z (Gk T A36 n z))) ∧
    (∀ v30 v32 v34 v36 : Value, Fl T w_10 0 fun n z => blkOf v32 ≠ blkOf v36 → A30 v30 (n, z) → A32 v32 (n, z) → A34 v34 (n, z) → A36 v36 (n, z) → (Is (buildV (τ 152) [(0, v32), (1, v36)]))) ∧
    (∀ v30 v32 v34 v36 : Value, Fl T w_10 0 fun n z => blkOf v32 ≠ blkOf v36 → A30 v30 (n, z) → A32 v32 (n, z) → A34 v34 (n, z) → A36 v36 (n, z) → (Is (buildV (τ 154) [(0, (gd (buildV (τ 152) [(0, v32), (1, v36)]))), (1, (.int .i64 0))]))) ∧
    (∀ v30 v32 v34 v36 : Value, Fl T w_10 0 fun n z => (AllocP CC 154 z (Gk T A7 n z))) ∧
    (∀ v30 v32 v34 v36 v7 : Value, Fl T w_10 1 fun n z => n = 0 → L [] z → blkOf v32 ≠ blkOf v36 → blkOf v32 ≠ blkOf v7 → blkOf v36 ≠ blkOf v7 → A30 v30 (n, z) → A32 v32 (n, z) → A34 v34 (n, z) → A36 v36 (n, z) → A7 v7 (n, z) → StoreP CC 154 v7 (gd (buildV (τ 154) [(0, (gd (buildV (τ 152) [(0, v32), (1, v36)]))), (1, (.int .i64 0))])) z fun y => Gl T L As11 n z [v7] undef y) ∧
    ∀ v30 v32 v34 v36 v7 vs11 : Value, ∀ (h : Nat → Value) (w_11 : World), T (0, w_10) (1, w_11) → blkOf v32 ≠ blkOf v36 → blkOf v32 ≠ blkOf v7 → blkOf v36 ≠ blkOf v7 → A30 v30 (1, w_11) → A32 v32 (1, w_11) → A34 v34 (1, w_11) → A36 v36 (1, w_11) → A7 v7 (1, w_11) → As11 vs11 (1, w_11) → L [v7] w_11 → 
    ∃ x39, fieldAddrV (τ 154) 0 v7 = some x39 ∧
    ∃ x40, fieldAddrV (τ 152) 1 x39 = some x40 ∧
    LoadP CC 102 x40 w_11 fun x41 w_12 =>
    ∃ x42, lenV (τ 102) x41 = some x42 ∧
    ∃ (I : Value → World → Prop) (μ : Value → World → Nat), I (.int .i64 0) w_12 ∧
    ∀ y43 : Value, ∀ (h_1 : Nat → Value) (w_13 : World), I y43 w_13 →
      ∃ x44, binV (.int .i64) .lss y43 x42 = some x44 ∧
      CondP x44 (
        ∃ x46, fieldAddrV (τ 154) 0 v7 = some x46 ∧
        ∃ x47, fieldAddrV (τ 152) 1 x46 = some x47 ∧
        LoadP CC 102 x47 w_13 fun x48 w_14 =>
        ∃ x50, indexAddrV (τ 102) x48 y43 = some x50 ∧
        StoreP CC 2 x50 (.int .i64 1) w_14 fun w_15 =>
        ∃ x51, binV (.int .i64) .add y43 (.int .i64 1) = some x51 ∧
        I x51 w_15 ∧ μ x51 w_15 < μ y43 w_13) (
        LoadP CC 154 v7 w_13 fun x52 w_16 =>
        LitP CC 155 1 [(0, x52)] w_16 fun x53 w_17 =>
        ∃ (I_1 : Value → Value → World → Prop) (μ_1 : Value → Value → World → Nat), I_1 (.bool false) x53 w_17 ∧
        ∀ y9 : Value, ∀ y10 : Value, ∀ (h_2 : Nat → Value) (w_18 : World), I_1 y9 y10 w_18 →
          ∃ x55, lenV (τ 155) y10 = some x55 ∧
          ∃ x56, binV (.int .i64) .gtr x55 (.int .i64 0) = some x56 ∧
          CondP x56 (
            ∃ x59, lenV (τ 155) y10 = some x59 ∧
            ∃ x60, binV (.int .i64) .sub x59 (.int .i64 1) = some x60 ∧
            ∃ x61, indexAddrV (τ 155) y10 x60 = some x61 ∧
            LoadP CC 154 x61 w_18 fun x62 w_19 =>
            AllocP CC 154 w_19 fun x11 w_20 =>
            StoreP CC 154 x11 x62 w_20 fun w_21 =>
            ∃ x65, lenV (τ 155) y10 = some x65 ∧
            ∃ x66, binV (.int .i64) .sub x65 (.int .i64 1) = some x66 ∧
            ∃ x67, sliceV (τ 155) y10 none (some x66) = some x67 ∧
            LoadP CC 154 x11 w_21 fun x68 w_22 =>
            LoadP CC 69 x1 w_22 fun x69 w_23 =>
            CallP CC 110 [x68, x69] w_23 fun x70 w_24 =>
            CallP CC 100 [x70] w_24 fun x71 w_25 =>
            AllocP CC 37 w_25 fun x12 w_26 =>
            StoreP CC 37 x12 x71 w_26 fun w_27 =>
            LoadP CC 147 x5 w_27 fun x72 w_28 =>
            ∃ x73, nilV x72 = some x73 ∧
            ∃ x74, fieldAddrV (τ 150) 2 x73 = some x74 ∧
            LoadP CC 3 x74 w_28 fun x75 w_29 =>
            ∃ x76, binV (.int .i64) .add x75 (.int .i64 1) = some x76 ∧
            ∃ x77, nilV x72 = some x77 ∧
            ∃ x78, fieldAddrV (τ 150) 2 x77 = some x78 ∧
            StoreP CC 3 x78 x76 w_29 fun w_30 =>
            ∃ x79, fieldAddrV (τ 37) 0 x12 = some x79 ∧
            LoadP CC 5 x79 w_30 fun x80 w_31 =>
            ∃ x82, binV (.int .u8) .eql x80 (.int .u8 2) = some x82 ∧
            CondP x82 (
              I_1 y9 x67 w_31 ∧ μ_1 y9 x67 w_31 < μ_1 y9 y10 w_18) (
              ∃ x84, binV (.int .u8) .eql x80 (.int .u8 3) = some x84 ∧
              CondP x84 (
                ∃ (I_2 : Value → World → Prop) (μ_2 : Value → World → Nat), I_2 (.int .i64 0) w_31 ∧
                ∀ y13 : Value, ∀ (h_3 : Nat → Value) (w_32 : World), I_2 y13 w_32 →
                  ∃ A88 A94 A97 A100 A103 : Value → World → Prop,
                  (Fw Grow w_32 fun z => (Is (fieldAddrV (τ 154) 0 x11))) ∧
                  (Fw Grow w_32 fun z => (Is (fieldAddrV (τ 152) 1 (gd (fieldAddrV (τ 154) 0 x11))))) ∧
                  (Fw Grow w_32 fun z => (LoadP CC 102 (gd (fieldAddrV (τ 152) 1 (gd (fieldAddrV (τ 154) 0 x11)))) z (Gw Grow A88 z))) ∧
                  (∀ v88 : Value, Fw Grow w_32 fun z => A88 v88 z → (Is (lenV (τ 102) v88))) ∧
                  (∀ v88 : Value, Fw Grow w_32 fun z => A88 v88 z → (Is (binV (.int .i64) .lss y13 (gd (lenV (τ 102) v88))))) ∧
                  (∀ v88 : Value, Fw Grow w_32 fun z => A88 v88 z → ((gd (binV (.int .i64) .lss y13 (gd (lenV (τ 102) v88)))) = .bool true → (Is (fieldAddrV (τ 154) 0 x11)))) ∧
                  (∀ v88 : Value, Fw Grow w_32 fun z => A88 v88 z → ((gd (binV (.int .i64) .lss y13 (gd (lenV (τ 102) v88)))) = .bool true → (Is (fieldAddrV (τ 152) 0 (gd (fieldAddrV (τ 154) 0 x11)))))) ∧
                  (∀ v88 : Value, Fw Grow w_32 fun z => A88 v88 z → ((gd (binV (.int .i64) .lss y13 (gd (lenV (τ 102) v88)))) = .bool true → (LoadP CC 102 (gd (fieldAddrV (τ 152) 0 (gd (fieldAddrV (τ 154) 0 x11)))) z (Gw Grow A94 z)))) ∧
                  (∀ v88 v94 : Value, Fw Grow w_32 fun z => A88 v88 z → ((gd (binV (.int .i64) .lss y13 (gd (lenV (τ 102) v88)))) = .bool true → A94 v94 z) → ((gd (binV (.int .i64) .lss y13 (gd (lenV (τ 102) v88)))) = .bool true → (Is (indexAddrV (τ 102) v94 y13)))) ∧
                  (∀ v88 v94 : Value, Fw Grow w_32 fun z => A88 v88 z → ((gd (binV (.int .i64) .lss y13 (gd (lenV (τ 102) v88)))) = .bool true → A94 v94 z) → ((gd (binV (.int .i64) .lss y13 (gd (lenV (τ 102) v88)))) = .bool true → (LoadP CC 2 (gd (indexAddrV (τ 102) v94 y13)) z (Gw Grow A97 z)))) ∧
                  (∀ v88 v94 v97 : Value, Fw Grow w_32 fun z => A88 v88 z → ((gd (binV (.int .i64) .lss y13 (gd (lenV (τ 102) v88)))) = .bool true → (Is (fieldAddrV (τ 154) 0 x11)))) ∧
                  (∀ v88 v94 v97 : Value, Fw Grow w_32 fun z => A88 v88 z → ((gd (binV (.int .i64) .lss y13 (gd (lenV (τ 102) v88)))) = .bool true → (Is (fieldAddrV (τ 152) 1 (gd (fieldAddrV (τ 154) 0 x11)))))) ∧
                  (∀ v88 v94 v97 : Value, Fw Grow w_32 fun z => A88 v88 z → ((gd (binV (.int .i64) .lss y13 (gd (lenV (τ 102) v88)))) = .bool true → (LoadP CC 102 (gd (fieldAddrV (τ 152) 1 (gd (fieldAddrV (τ 154) 0 x11)))) z (Gw Grow A100 z)))) ∧
                  (∀ v88 v94 v97 v100 : Value, Fw Grow w_32 fun z => A88 v88 z → ((gd (binV (.int .i64) .lss y13 (gd (lenV (τ 102) v88)))) = .bool true → A100 v100 z) → ((gd (binV (.int .i64) .lss y13 (gd (lenV (τ 102) v88)))) = .bool true → (Is (indexAddrV (τ 102) v100 y13)))) ∧
                  (∀ v88 v94 v97 v100 : Value, Fw Grow w_32 fun z => A88 v88 z → ((gd (binV (.int .i64) .lss y13 (gd (lenV (τ 102) v88)))) = .bool true → A100 v100 z) → ((gd (binV (.int .i64) .lss y13 (gd (lenV (τ 102) v88)))) = .bool true → (LoadP CC 2 (gd (indexAddrV (τ 102) v100 y13)) z (Gw Grow A103 z)))) ∧
                  (∀ v88 v94 v97 v100 v103 : Value, Fw Grow w_32 fun z => A88 v88 z → ((gd (binV (.int .i64) .lss y13 (gd (lenV (τ 102) v88)))) = .bool true → A94 v94 z) → ((gd (binV (.int .i64) .lss y13 (gd (lenV (τ 102) v88)))) = .bool true → A97 v97 z) → ((gd (binV (.int .i64) .lss y13 (gd (lenV (τ 102) v88)))) = .bool true → A100 v100 z) → ((gd (binV (.int .i64) .lss y13 (gd (lenV (τ 102) v88)))) = .bool true → A103 v103 z) → ((gd (binV (.int .i64) .lss y13 (gd (lenV (τ 102) v88)))) = .bool true → (Is (binV (.int .i64) .eql v97 v103)))) ∧
                  (∀ v88 v94 v97 v100 v103 : Value, Fw Grow w_32 fun z => A88 v88 z → ((gd (binV (.int .i64) .lss y13 (gd (lenV (τ 102) v88)))) = .bool true → A94 v94 z) → ((gd (binV (.int .i64) .lss y13 (gd (lenV (τ 102) v88)))) = .bool true → A97 v97 z) → ((gd (binV (.int .i64) .lss y13 (gd (lenV (τ 102) v88)))) = .bool true → A100 v100 z) → ((gd (binV (.int .i64) .lss y13 (gd (lenV (τ 102) v88)))) = .bool true → A103 v103 z) → (Is (pickV (gd (binV (.int .i64) .lss y13 (gd (lenV (τ 102) v88)))) (gd (binV (.int .i64) .eql v97 v103)) (.bool false)))) ∧
                  ∀ v88 v94 v97 v100 v103 : Value, ∀ (h_4 : Nat → Value) (w_33 : World), Grow w_32 w_33 → A88 v88 w_33 → ((gd (binV (.int .i64) .lss y13 (gd (lenV (τ 102) v88)))) = .bool true → A94 v94 w_33) → ((gd (binV (.int .i64) .lss y13 (gd (lenV (τ 102) v88)))) = .bool true → A97 v97 w_33) → ((gd (binV (.int .i64) .lss y13 (gd (lenV (τ 102) v88)))) = .bool true → A100 v100 w_33) → ((gd (binV (.int .i64) .lss y13 (gd (lenV (τ 102) v88)))) = .bool true → A103 v103 w_33) → 
                  CondP (gd (pickV (gd (binV (.int .i64) .lss y13 (gd (lenV (τ 102) v88)))) (gd (binV (.int .i64) .eql v97 v103)) (.bool false))) (
                    ∃ x107, binV (.int .i64) .add y13 (.int .i64 1) = some x107 ∧
                    I_2 x107 w_33 ∧ μ_2 x107 w_33 < μ_2 y13 w_32) (
                    ∃ x109, fieldAddrV (τ 154) 0 x11 = some x109 ∧
                    ∃ x110, fieldAddrV (τ 152) 1 x109 = some x110 ∧
                    LoadP CC 102 x110 w_33 fun x111 w_34 =>
                    ∃ x112, lenV (τ 102) x111 = some x112 ∧
                    ∃ x113, binV (.int .i64) .eql y13 x112 = some x113 ∧
                    CondP x113 (
                      R (.tuple #[(.slice none 0 0), (.int .i64 0), (.int .i64 9)]) w_34) (
                      LoadP CC 154 x11 w_34 fun x115 w_35 =>
                      CallP CC 111 [x115, y13] w_35 fun x117 w_36 =>
                      ∃ x118, extrV x117 0 = some x118 ∧
                      ∃ x119, extrV x117 1 = some x119 ∧
                      AllocP CC 154 w_36 fun x14 w_37 =>
                      AllocP CC 154 w_37 fun x15 w_38 =>
                      StoreP CC 154 x14 x118 w_38 fun w_39 =>
                      StoreP CC 154 x15 x119 w_39 fun w_40 =>
                      LoadP CC 154 x15 w_40 fun x121 w_41 =>
                      LoadP CC 154 x14 w_41 fun x122 w_42 =>
                      LitP CC 155 2 [(0, x121), (1, x122)] w_42 fun x123 w_43 =>
                      AppendP CC #[155, 155] 155 [x67, x123] w_43 fun x124 w_44 =>
                      I_1 (.bool true) x124 w_44 ∧ μ_1 (.bool true) x124 w_44 < μ_1 y9 y10 w_18))) (
                ∃ A125 A128 A130 A131 : Value → World → Prop,
                (Fw Grow w_31 fun z => (LoadP CC 147 x5 z (Gw Grow A125 z))) ∧
                (∀ v125 : Value, Fw Grow w_31 fun z => A125 v125 z → (Is (nilV v125))) ∧
                (∀ v125 : Value, Fw Grow w_31 fun z => A125 v125 z → (Is (fieldAddrV (τ 150) 1 (gd (nilV v125))))) ∧
                (∀ v125 : Value, Fw Grow w_31 fun z => A125 v125 z → (LoadP CC 148 (gd (fieldAddrV (τ 150) 1 (gd (nilV v125)))) z (Gw Grow A128 z))) ∧
                (∀ v125 v128 : Value, Fw Grow w_31 fun z => (Is (fieldAddrV (τ 37) 1 x12))) ∧
                (∀ v125 v128 : Value, Fw Grow w_31 fun z => (LoadP CC 23 (gd (fieldAddrV (τ 37) 1 x12)) z (Gw Grow A130 z))) ∧
                (∀ v125 v128 v130 : Value, Fw Grow w_31 fun z => A125 v125 z → A128 v128 z → A130 v130 z → (callV CC v128 [v130] z (Gw Grow A131 z))) ∧
                ∀ v125 v128 v130 v131 : Value, ∀ (h_5 : Nat → Value) (w_45 : World), Grow w_31 w_45 → A125 v125 w_45 → A128 v128 w_45 → A130 v130 w_45 → A131 v131 w_45 → 
                CondP v131 (
                  I_1 y9 x67 w_45 ∧ μ_1 y9 x67 w_45 < μ_1 y9 y10 w_18) (
                  LoadP CC 69 x1 w_45 fun x133 w_46 =>
                  ∃ x134, fieldAddrV (τ 37) 1 x12 = some x134 ∧
                  LoadP CC 23 x134 w_46 fun x135 w_47 =>
                  CallP CC 112 [x133, x135] w_47 fun x136 w_48 =>
                  ∃ x137, extrV x136 0 = some x137 ∧
                  ∃ x138, extrV x136 1 = some x138 ∧
                  CondP x138 (
                    LoadP CC 147 x5 w_48 fun x140 w_49 =>
                    ∃ x141, fieldAddrV (τ 37) 1 x12 = some x141 ∧
                    LoadP CC 23 x141 w_49 fun x142 w_50 =>
                    ∃ x143, nilV x140 = some x143 ∧
                    ∃ x144, fieldAddrV (τ 150) 0 x143 = some x144 ∧
                    StoreP CC 23 x144 x142 w_50 fun w_51 =>
                    StoreP CC 4 x6 (.bool true) w_51 fun w_52 =>
                    I_1 y9 x67 w_52 ∧ μ_1 y9 x67 w_52 < μ_1 y9 y10 w_18) (
                    LoadP CC 154 x11 w_48 fun x146 w_53 =>
                    CallP CC 111 [x146, x137] w_53 fun x148 w_54 =>
                    ∃ x149, extrV x148 0 = some x149 ∧
                    ∃ x150, extrV x148 1 = some x150 ∧
                    AllocP CC 154 w_54 fun x18 w_55 =>
                    AllocP CC 154 w_55 fun x19 w_56 =>
                    StoreP CC 154 x18 x149 w_56 fun w_57 =>
                    StoreP CC 154 x19 x150 w_57 fun w_58 =>
                    LoadP CC 154 x18 w_58 fun x152 w_59 =>
                    LoadP CC 154 x19 w_59 fun x153 w_60 =>
                    LitP CC 155 2 [(0, x152), (1, x153)] w_60 fun x154 w_61 =>
                    AppendP CC #[155, 155] 155 [x67, x154] w_61 fun x155 w_62 =>
                    I_1 y9 x155 w_62 ∧ μ_1 y9 x155 w_62 < μ_1 y9 y10 w_18))))) (
            LoadP CC 4 x6 w_18 fun x156 w_63 =>
            ∃ x157, unV .not x156 = some x157 ∧
            CondP x157 (
              R (.tuple #[(.slice none 0 0), (.int .i64 0), (.int .i64 8)]) w_63) (
              CondP y9 (
                R (.tuple #[(.slice none 0 0), (.int .i64 0), (.int .i64 9)]) w_63) (
                ∃ A159 A162 A163 A166 : Value → World → Prop,
                (Fw Grow w_63 fun z => (LoadP CC 147 x5 z (Gw Grow A159 z))) ∧
                (∀ v159 : Value, Fw Grow w_63 fun z => A159 v159 z → (Is (nilV v159))) ∧
                (∀ v159 : Value, Fw Grow w_63 fun z => A159 v159 z → (Is (fieldAddrV (τ 150) 0 (gd (nilV v159))))) ∧
                (∀ v159 : Value, Fw Grow w_63 fun z => A159 v159 z → (LoadP CC 23 (gd (fieldAddrV (τ 150) 0 (gd (nilV v159)))) z (Gw Grow A162 z))) ∧
                (∀ v159 v162 : Value, Fw Grow w_63 fun z => (LoadP CC 147 x5 z (Gw Grow A163 z))) ∧
                (∀ v159 v162 v163 : Value, Fw Grow w_63 fun z => A163 v163 z → (Is (nilV v163))) ∧
                (∀ v159 v162 v163 : Value, Fw Grow w_63 fun z => A163 v163 z → (Is (fieldAddrV (τ 150) 2 (gd (nilV v163))))) ∧
                (∀ v159 v162 v163 : Value, Fw Grow w_63 fun z => A163 v163 z → (LoadP CC 3 (gd (fieldAddrV (τ 150) 2 (gd (nilV v163)))) z (Gw Grow A166 z))) ∧
                ∀ v159 v162 v163 v166 : Value, ∀ (h_6 : Nat → Value) (w_64 : World), Grow w_63 w_64 → A159 v159 w_64 → A162 v162 w_64 → A163 v163 w_64 → A166 v166 w_64 → 
                R (.tuple #[v162, v166, (.int .i64 0)]) w_64)))))
theorem V51_eq (a0 : Value) (w : World) (R : Value → World → Prop) : V51 a0 w R = FnP CC { keep := fun | 8 => [43] | 14 => [9, 10] | 24 => [13] | _ => [], lin := fun | 6 => [11] | _ => [] } Tryz.f51 [a0] w R := by kernel_rfl
theorem call51 {a0 : Value} {w : World} {R : Value → World → Prop} (h : V51 a0 w R) : CallP CC 51 [a0] w R :=
  call_of_vc CC.ok _ Tryz.func51 (V51_eq a0 w R ▸ h)
def V161 (a0 a1 : Value) (w : World) (R : Value → World → Prop) : Prop :=
  BoxP CC 28 a0 w fun x2 w_1 =>
  BoxP CC 28 a1 w_1 fun x3 w_2 =>
  ∃ x6, fieldAddrV (τ 28) 0 x2 = some x6 ∧
  LoadP CC 4 x6 w_2 fun x7 w_3 =>
  ∃ x8, fieldAddrV (τ 28) 0 x3 = some x8 ∧
  LoadP CC 4 x8 w_3 fun x9 w_4 =>
  ∃ x10, binV .bool .neq x7 x9 = some x10 ∧
  CondP x10 (
    ∃ x19, pickV x10 (.bool true) undef = some x19 ∧
    CondP x19 (
      R (.bool false) w_4) (
      ∃ (I : Value → World → Prop) (μ : Value → World → Nat), I (.int .i64 0) w_4 ∧
      ∀ y5 : Value, ∀ (h : Nat → Value) (w_5 : World), I y5 w_5 →
        ∃ x21, fieldAddrV (τ 28) 1 x2 = some x21 ∧
        LoadP CC 26 x21 w_5 fun x22 w_6 =>
        ∃ x23, lenV (τ 26) x22 = some x23 ∧
        ∃ x24, binV (.int .i64) .lss y5 x23 = some x24 ∧
        CondP x24 (
          ∃ A28 A31 A33 A36 : Value → World → Prop,
          (Fw Grow w_6 fun z => (Is (fieldAddrV (τ 28) 1 x2))) ∧
          (Fw Grow w_6 fun z => (LoadP CC 26 (gd (fieldAddrV (τ 28) 1 x2)) z (Gw Grow A28 z))) ∧
          (∀ v28 : Value, Fw Grow w_6 fun z => A28 v28 z → (Is (indexAddrV (τ 26) v28 y5))) ∧
          (∀ v28 : Value, Fw Grow w_6 fun z => A28 v28 z → (LoadP CC 199 (gd (indexAddrV (τ 26) v28 y5)) z (Gw Grow A31 z))) ∧
          (∀ v28 v31 : Value, Fw Grow w_6 fun z => (Is (fieldAddrV (τ 28) 1 x3))) ∧
          (∀ v28 v31 : Value, Fw Grow w_6 fun z => (LoadP CC 26 (gd (fieldAddrV (τ 28) 1 x3)) z (Gw Grow A33 z))) ∧
          (∀ v28 v31 v33 : Value, Fw Grow w_6 fun z => A33 v33 z → (Is (indexAddrV (τ 26) v33 y5))) ∧
          (∀ v28 v31 v33 : Value, Fw Grow w_6 fun z => A33 v33 z → (LoadP CC 199 (gd (indexAddrV (τ 26) v33 y5)) z (Gw Grow A36 z))) ∧
          (∀ v28 v31 v33 v36 : Value, Fw Grow w_6 fun z => A28 v28 z → A31 v31 z → A33 v33 z → A36 v36 z → (Is (binV (.int .u32) .neq v31 v36))) ∧
          ∀ v28 v31 v33 v36 : Value, ∀ (h_1 : Nat → Value) (w_7 : World), Grow w_6 w_7 → A28 v28 w_7 → A31 v31 w_7 → A33 v33 w_7 → A36 v36 w_7 → 
          CondP (gd (binV (.int .u32) .neq v31 v36)) (
            R (.bool false) w_7) (
            ∃ x26, binV (.int .i64) .add y5 (.int .i64 1) = some x26 ∧
            I x26 w_7 ∧ μ x26 w_7 < μ y5 w_5)) (
          R (.bool true) w_6))) (
    ∃ x12, fieldAddrV (τ 28) 1 x2 = some x12 ∧
    LoadP CC 26 x12 w_4 fun x13 w_8 =>
    ∃ x14, lenV (τ 26) x13 = some x14 ∧
    ∃ x15, fieldAddrV (τ 28) 1 x3 = some x15 ∧
    LoadP CC 26 x15 w_8 fun x16 w_9 =>
    ∃ x17, lenV (τ 26) x16 = some x17 ∧
    ∃ x18, binV (.int .i64) .neq x14 x17 = some x18 ∧
    ∃ x19_1, pickV x10 (.bool true) x18 = some x19_1 ∧
    CondP x19_1 (
      R (.bool false) w_9) (
      ∃ (I_1 : Value → World → Prop) (μ_1 : Value → World → Nat), I_1 (.int .i64 0) w_9 ∧
      ∀ y5_1 : Value, ∀ (h_2 : Nat → Value) (w_10 : World), I_1 y5_1 w_10 →
        ∃ x21_1, fieldAddrV (τ 28) 1 x2 = some x21_1 ∧
        LoadP CC 26 x21_1 w_10 fun x22_1 w_11 =>
        ∃ x23_1, lenV (τ 26) x22_1 = some x23_1 ∧
        ∃ x24_1, binV (.int .i64) .lss y5_1 x23_1 = some x24_1 ∧
        CondP x24_1 (
          ∃ A28_1 A31_1 A33_1 A36_1 : Value → World → Prop,
          (Fw Grow w_11 fun z => (Is (fieldAddrV (τ 28) 1 x2))) ∧
          (Fw Grow w_11 fun z => (LoadP CC 26 (gd (fieldAddrV (τ 28) 1 x2)) z (Gw Grow A28_1 z))) ∧
          (∀ v28_1 : Value, Fw Grow w_11 fun z => A28_1 v28_1 z → (Is (indexAddrV (τ 26) v28_1 y5_1))) ∧
          (∀ v28_1 : Value, Fw Grow w_11 fun z => A28_1 v28_1 z → (LoadP CC 199 (gd (indexAddrV (τ 26) v28_1 y5_1)) z (Gw Grow A31_1 z))) ∧
          (∀ v28_1 v31_1 : Value, Fw Grow w_11 fun z => (Is (fieldAddrV (τ 28) 1 x3))) ∧
          (∀ v28_1 v31_1 : Value, Fw Grow w_11 fun z => (LoadP CC 26 (gd (fieldAddrV (τ 28) 1 x3)) z (Gw Grow A33_1 z))) ∧
          (∀ v28_1 v31_1 v33_1 : Value, Fw Grow w_11 fun z => A33_1 v33_1 z → (Is (indexAddrV (τ 26) v33_1 y5_1))) ∧
          (∀ v28_1 v31_1 v33_1 : Value, Fw Grow w_11 fun z => A33_1 v33_1 z → (LoadP CC 199 (gd (indexAddrV (τ 26) v33_1 y5_1)) z (Gw Grow A36_1 z))) ∧
          (∀ v28_1 v31_1 v33_1 v36_1 : Value, Fw Grow w_11 fun z => A28_1 v28_1 z → A31_1 v31_1 z → A33_1 v33_1 z → A36_1 v36_1 z → (Is (binV (.int .u32) .neq v31_1 v36_1))) ∧
          ∀ v28_1 v31_1 v33_1 v36_1 : Value, ∀ (h_3 : Nat → Value) (w_12 : World), Grow w_11 w_12 → A28_1 v28_1 w_12 → A31_1 v31_1 w_12 → A33_1 v33_1 w_12 → A36_1 v36_1 w_12 → 
          CondP (gd (binV (.int .u32) .neq v31_1 v36_1)) (
            R (.bool false) w_12) (
            ∃ x26_1, binV (.int .i64) .add y5_1 (.int .i64 1) = some x26_1 ∧
            I_1 x26_1 w_12 ∧ μ_1 x26_1 w_12 < μ_1 y5_1 w_10)) (
          R (.bool true) w_11)))
theorem V161_eq (a0 a1 : Value) (w : World) (R : Value → World → Prop) : V161 a0 a1 w R = FnP CC { keep := fun | 4 => [5] | _ => [], lin := fun | 1 => [1000000] | _ => [] } Tryz.f161 [a0, a1] w R := by kernel_rfl
theorem call161 {a0 a1 : Value} {w : World} {R : Value → World → Prop} (h : V161 a0 a1 w R) : CallP CC 161 [a0, a1] w R :=
  call_of_vc CC.ok _ Tryz.func161 (V161_eq a0 a1 w R ▸ h)
def V56 (a0 a1 : Value) (w : World) (R : Value → World → Prop) : Prop :=
  BoxP CC 69 a0 w fun x2 w_1 =>
  LoadP CC 69 x2 w_1 fun x7 w_2 =>
  CallP CC 54 [x7] w_2 fun x8 w_3 =>
  ∃ x9, unV .not x8 = some x9 ∧
  CondP x9 (
    ∃ x16, pickV x9 (.bool true) undef = some x16 ∧
    CondP x16 (
      R (.bool false) w_3) (
      LoadP CC 69 x2 w_3 fun x18 w_4 =>
      CallP CC 112 [x18, a1] w_4 fun x20 w_5 =>
      ∃ x21, extrV x20 0 = some x21 ∧
      ∃ x22, extrV x20 1 = some x22 ∧
      R x22 w_5)) (
    ∃ x11, fieldAddrV (τ 69) 0 x2 = some x11 ∧
    LoadP CC 25 x11 w_3 fun x12 w_6 =>
    CallP CC 35 [x12, a1] w_6 fun x14 w_7 =>
    ∃ x15, unV .not x14 = some x15 ∧
    ∃ x16_1, pickV x9 (.bool true) x15 = some x16_1 ∧
    CondP x16_1 (
      R (.bool false) w_7) (
      LoadP CC 69 x2 w_7 fun x18_1 w_8 =>
      CallP CC 112 [x18_1, a1] w_8 fun x20_1 w_9 =>
      ∃ x21_1, extrV x20_1 0 = some x21_1 ∧
      ∃ x22_1, extrV x20_1 1 = some x22_1 ∧
      R x22_1 w_9))
theorem V56_eq (a0 a1 : Value) (w : World) (R : Value → World → Prop) : V56 a0 a1 w R = FnP CC { keep := fun _ => [], lin := fun | 1 => [1000000] | _ => [] } Tryz.f56 [a0, a1] w R := by kernel_rfl
theorem call56 {a0 a1 : Value} {w : World} {R : Value → World → Prop} (h : V56 a0 a1 w R) : CallP CC 56 [a0, a1] w R :=
  call_of_vc CC.ok _ Tryz.func56 (V56_eq a0 a1 w R ▸ h)
def V98 (a0 a1 : Value) (w : World) (R : Value → World → Prop) : Prop :=
  ∃ x7, lenV (τ 23) a0 = some x7 ∧
  ∃ x9, lenV (τ 23) a1 = some x9 ∧
  ∃ x10, binV (.int .i64) .neq x7 x9 = some x10 ∧
  CondP x10 (
    R (.bool false) w) (
    ∃ (I : Value → World → Prop) (μ : Value → World → Nat), I (.int .i64 0) w ∧
    ∀ y5 : Value, ∀ (h : Nat → Value) (w_1 : World), I y5 w_1 →
      ∃ x13, lenV (τ 23) a0 = some x13 ∧
      ∃ x14, binV (.int .i64) .lss y5 x13 = some x14 ∧
      CondP x14 (
        ∃ A20 A24 A25 : Value → World → Prop,
        (Fw Grow w_1 fun z => (Is (indexAddrV (τ 23) a0 y5))) ∧
        (Fw Grow w_1 fun z => (LoadP CC 30 (gd (indexAddrV (τ 23) a0 y5)) z (Gw Grow A20 z))) ∧
        (∀ v20 : Value, Fw Grow w_1 fun z => (Is (indexAddrV (τ 23) a1 y5))) ∧
        (∀ v20 : Value, Fw Grow w_1 fun z => (LoadP CC 30 (gd (indexAddrV (τ 23) a1 y5)) z (Gw Grow A24 z))) ∧
        (∀ v20 v24 : Value, Fw Grow w_1 fun z => A20 v20 z → A24 v24 z → (CallP CC 99 [v20, v24] z (Gw Grow A25 z))) ∧
        (∀ v20 v24 v25 : Value, Fw Grow w_1 fun z => A20 v20 z → A24 v24 z → A25 v25 z → (Is (unV .not v25))) ∧
        ∀ v20 v24 v25 : Value, ∀ (h_1 : Nat → Value) (w_2 : World), Grow w_1 w_2 → A20 v20 w_2 → A24 v24 w_2 → A25 v25 w_2 → 
        CondP (gd (unV .not v25)) (
          R (.bool false) w_2) (
          ∃ x16, binV (.int .i64) .add y5 (.int .i64 1) = some x16 ∧
          I x16 w_2 ∧ μ x16 w_2 < μ y5 w_1)) (
        R (.bool true) w_1))
theorem V98_eq (a0 a1 : Value) (w : World) (R : Value → World → Prop) : V98 a0 a1 w R = FnP CC { keep := fun | 4 => [5] | _ => [], lin := fun _ => [] } Tryz.f98 [a0, a1] w R := by kernel_rfl
theorem call98 {a0 a1 : Value} {w : World} {R : Value → World → Prop} (h : V98 a0 a1 w R) : CallP CC 98 [a0, a1] w R :=
  call_of_vc CC.ok _ Tryz.func98 (V98_eq a0 a1 w R ▸ h)
def V99 (a0 a1 : Value) (w : World) (R : Value → World → Prop) : Prop :=
  BoxP CC 30 a0 w fun x2 w_1 =>
  BoxP CC 30 a1 w_1 fun x3 w_2 =>
  ∃ x5, fieldAddrV (τ 30) 0 x2 = some x5 ∧
  LoadP CC 28 x5 w_2 fun x6 w_3 =>
  ∃ x7, fieldAddrV (τ 30) 0 x3 = some x7 ∧
  LoadP CC 28 x7 w_3 fun x8 w_4 =>
  CallP CC 161 [x6, x8] w_4 fun x9 w_5 =>
  CondP x9 (
    ∃ x11, fieldAddrV (τ 30) 1 x2 = some x11 ∧
    LoadP CC 28 x11 w_5 fun x12 w_6 =>
    ∃ x13, fieldAddrV (τ 30) 1 x3 = some x13 ∧
    LoadP CC 28 x13 w_6 fun x14 w_7 =>
    CallP CC 161 [x12, x14] w_7 fun x15 w_8 =>
    ∃ x16, pickV x9 x15 (.bool false) = some x16 ∧
    R x16 w_8) (
    ∃ x16_1, pickV x9 undef (.bool false) = some x16_1 ∧
    R x16_1 w_5)
theorem V99_eq (a0 a1 : Value) (w : World) (R : Value → World → Prop) : V99 a0 a1 w R = FnP CC { keep := fun _ => [], lin := fun | 1 => [1000000] | _ => [] } Tryz.f99 [a0, a1] w R := by kernel_rfl
theorem call99 {a0 a1 : Value} {w : World} {R : Value → World → Prop} (h : V99 a0 a1 w R) : CallP CC 99 [a0, a1] w R :=
  call_of_vc CC.ok _ Tryz.func99 (V99_eq a0 a1 w R ▸ h)
def V107 (w : World) (R : Value → World → Prop) : Prop :=
  AllocP CC 69 w fun x0 w_1 =>
  LitP CC 102 3 [(0, (.int .i64 5)), (1, (.int .i64 4)), (2, (.int .i64 3))] w_1 fun x2 w_2 =>
  LitP CC 200 1 [(0, x2)] w_2 fun x3 w_3 =>
  CallP CC 97 [x3] w_3 fun x4 w_4 =>
  LitP CC 102 3 [(0, (.int .i64 2)), (1, (.int .i64 3)), (2, (.int .i64 1))] w_4 fun x5 w_5 =>
  LitP CC 102 3 [(0, (.int .i64 4)), (1, (.int .i64 1)), (2, (.int .i64 2))] w_5 fun x6 w_6 =>
  LitP CC 102 3 [(0, (.int .i64 3)), (1, (.int .i64 4)), (2, (.int .i64 2))] w_6 fun x7 w_7 =>
  LitP CC 200 3 [(0, x5), (1, x6), (2, x7)] w_7 fun x8 w_8 =>
  CallP CC 97 [x8] w_8 fun x9 w_9 =>
  LitP CC 102 3 [(0, (.int .i64 5)), (1, (.int .i64 11)), (2, (.int .i64 8))] w_9 fun x10 w_10 =>
  CallP CC 73 [x10] w_10 fun x11 w_11 =>
  ∃ x12, buildV (τ 25) [(0, (.int .i64 3)), (1, x4), (2, x9), (3, x11)] = some x12 ∧
  AllocP CC 25 w_11 fun x1 w_12 =>
  StoreP CC 25 x1 x12 w_12 fun w_13 =>
  LoadP CC 25 x1 w_13 fun x13 w_14 =>
  LitP CC 67 3 [(0, (.int .i64 0)), (1, (.int .i64 1)), (2, (.int .i64 2))] w_14 fun x14 w_15 =>
  ∃ x15, buildV (τ 69) [(0, x13), (1, x14)] = some x15 ∧
  StoreP CC 69 x0 x15 w_15 fun w_16 =>
  ∃ ad r, x0 = .pointer (some ad) ∧ (loadVar 69 ad).run CC.P w_16 = .ok r w_16 ∧
  R r w_16
theorem V107_eq (w : World) (R : Value → World → Prop) : V107  w R = FnP CC { keep := fun _ => [], lin := fun _ => [] } Tryz.f107 [] w R := by kernel_rfl
theorem call107 {w : World} {R : Value → World → Prop} (h : V107  w R) : CallP CC 107 [] w R :=
  call_of_vc CC.ok _ Tryz.func107 (V107_eq  w R ▸ h)
def V108 (a0 a1 : Value) (w : World) (R : Value → World → Prop) : Prop :=
  AllocP CC 69 w fun x4 w_1 =>
  LitP CC 102 1 [(0, (.int .i64 1))] w_1 fun x7 w_2 =>
  LitP CC 200 1 [(0, x7)] w_2 fun x8 w_3 =>
  CallP CC 97 [x8] w_3 fun x9 w_4 =>
  CallP CC 73 [a1] w_4 fun x11 w_5 =>
  ∃ x12, buildV (τ 25) [(0, (.int .i64 1)), (1, x9), (3, x11)] = some x12 ∧
  AllocP CC 25 w_5 fun x5 w_6 =>
  StoreP CC 25 x5 x12 w_6 fun w_7 =>
  ∃ (I : Value → World → Prop) (μ : Value → World → Nat), I (.int .i64 0) w_7 ∧
  ∀ y6 : Value, ∀ (h : Nat → Value) (w_8 : World), I y6 w_8 →
    ∃ x15, lenV (τ 102) a0 = some x15 ∧
    ∃ x16, binV (.int .i64) .lss y6 x15 = some x16 ∧
    CondP x16 (
      ∃ (T : Nat × World → Nat × World → Prop) (L : List Value → World → Prop), Hg T ∧ Ht T ∧ Hl L w_8 ∧
      ∃ A20 A24 A25 A26 A27 A28 As11 : Value → Nat × World → Prop,
      (Fl T w_8 0 fun n z => (Is (fieldAddrV (τ 25) 2 x5))) ∧
      (Fl T w_8 0 fun n z => (LoadP CC 22 (gd (fieldAddrV (τ 25) 2 x5)) z (Gk T A20 n z))) ∧
      (∀ v20 : Value, Fl T w_8 0 fun n z => (Is (indexAddrV (τ 102) a0 y6))) ∧
      (∀ v20 : Value, Fl T w_8 0 fun n z => (LoadP CC 2 (gd (indexAddrV (τ 102) a0 y6)) z (Gk T A24 n z))) ∧
      (∀ v20 v24 : Value, Fl T w_8 0 fun n z => A24 v24 (n, z) → (LitP CC 102 1 [(0, v24)] z (Gk T A25 n z))) ∧
      (∀ v20 v24 v25 : Value, Fl T w_8 0 fun n z => A24 v24 (n, z) → A25 v25 (n, z) → (CallP CC 73 [v25] z (Gk T A26 n z))) ∧
      (∀ v20 v24 v25 v26 : Value, Fl T w_8 0 fun n z => A24 v24 (n, z) → A25 v25 (n, z) → A26 v26 (n, z) → (LitP CC 22 1 [(0, v26)] z (Gk T A27 n z))) ∧
      (∀ v20 v24 v25 v26 v27 : Value, Fl T w_8 1 fun n z => n = 0 → L [] z → blkOf v25 ≠ blkOf v27 → A20 v20 (n, z) → A24 v24 (n, z) → A25 v25 (n, z) → A26 v26 (n, z) → A27 v27 (n, z) → AppendP CC #[22, 22] 22 [v20, v27] z fun x y => Gl T L A28 n z [x] x y) ∧
      (∀ v20 v24 v25 v26 v27 v28 : Value, Fl T w_8 1 fun n z => blkOf v25 ≠ blkOf v27 → A20 v20 (n, z) → A24 v24 (n, z) → A25 v25 (n, z) → A26 v26 (n, z) → A27 v27 (n, z) → A28 v28 (n, z) → (Is (fieldAddrV (τ 25) 2 x5))) ∧
      (∀ v20 v24 v25 v26 v27 v28 : Value, Fl T w_8 2 fun n z => n = 1 → L [v28] z → blkOf v25 ≠ blkOf v27 → A20 v20 (n, z) → A24 v24 (n, z) → A25 v25 (n, z) → A26 v26 (n, z) → A27 v27 (n, z) → A28 v28 (n, z) → StoreP CC 22 (gd (fieldAddrV (τ 25) 2 x5)) v28 z fun y => Gl T L As11 n z [v28, (gd (fieldAddrV (τ 25) 2 x5))] undef y) ∧
      ∀ v20 v24 v25 v26 v27 v28 vs11 : Value, ∀ (h_1 : Nat → Value) (w_9 : World), T (0, w_8) (2, w_9) → blkOf v25 ≠ blkOf v27 → A20 v20 (2, w_9) → A24 v24 (2, w_9) → A25 v25 (2, w_9) → A26 v26 (2, w_9) → A27 v27 (2, w_9) → A28 v28 (2, w_9) → As11 vs11 (2, w_9) → L [v28, (gd (fieldAddrV (τ 25) 2 x5))] w_9 → 
      ∃ x18, binV (.int .i64) .add y6 (.int .i64 1) = some x18 ∧
      I x18 w_9 ∧ μ x18 w_9 < μ y6 w_8) (
      LoadP CC 25 x5 w_8 fun x30 w_10 =>
      LitP CC 67 1 [(0, (.int .i64 0))] w_10 fun x31 w_11 =>
      ∃ x32, buildV (τ 69) [(0, x30), (1, x31)] = some x32 ∧
      StoreP CC 69 x4 x32 w_11 fun w_12 =>
      ∃ ad r, x4 = .pointer (some ad) ∧ (loadVar 69 ad).run CC.P w_12 = .ok r w_12 ∧
      R r w_12)
theorem V108_eq (a0 a1 : Value) (w : World) (R : Value → World → Prop) : V108 a0 a1 w R = FnP CC { keep := fun | 3 => [6] | _ => [], lin := fun | 5 => [9, 11] | _ => [] } Tryz.f108 [a0, a1] w R := by kernel_rfl
theorem call108 {a0 a1 : Value} {w : World} {R : Value → World → Prop} (h : V108 a0 a1 w R) : CallP CC 108 [a0, a1] w R :=
  call_of_vc CC.ok _ Tryz.func108 (V108_eq a0 a1 w R ▸ h)
def V48 (w : World) (R : Value → World → Prop) : Prop :=
  CallP CC 107 [] w fun x11 w_1 =>
  CallP CC 51 [x11] w_1 fun x12 w_2 =>
  ∃ x13, extrV x12 0 = some x13 ∧
  ∃ x14, extrV x12 1 = some x14 ∧
  ∃ x15, extrV x12 2 = some x15 ∧
  LitP CC 102 1 [(0, (.int .i64 2))] w_2 fun x17 w_3 =>
  LitP CC 102 1 [(0, (.int .i64 1))] w_3 fun x18 w_4 =>
  CallP CC 108 [x17, x18] w_4 fun x19 w_5 =>
  CallP CC 51 [x19] w_5 fun x20 w_6 =>
  ∃ x21, extrV x20 0 = some x21 ∧
  ∃ x22, extrV x20 1 = some x22 ∧
  ∃ x23, extrV x20 2 = some x23 ∧
  LitP CC 102 2 [(0, (.int .i64 (-2))), (1, (.int .i64 2))] w_6 fun x25 w_7 =>
  LitP CC 102 2 [(0, (.int .i64 (-1))), (1, (.int .i64 1))] w_7 fun x26 w_8 =>
  CallP CC 108 [x25, x26] w_8 fun x27 w_9 =>
  CallP CC 51 [x27] w_9 fun x28 w_10 =>
  ∃ x29, extrV x28 0 = some x29 ∧
  ∃ x30, extrV x28 1 = some x30 ∧
  ∃ x31, extrV x28 2 = some x31 ∧
  ∃ x33, binV (.int .i64) .eql x15 (.int .i64 0) = some x33 ∧
  CondP x33 (
    ∃ x36, binV (.int .i64) .eql x23 (.int .i64 0) = some x36 ∧
    ∃ x37, pickV x33 x36 (.bool false) = some x37 ∧
    CondP x37 (
      ∃ x40, binV (.int .i64) .eql x31 (.int .i64 8) = some x40 ∧
      ∃ x41, pickV x37 x40 (.bool false) = some x41 ∧
      CondP x41 (
        ∃ x44, binV (.int .i64) .geq x14 (.int .i64 1) = some x44 ∧
        ∃ x45, pickV x41 x44 (.bool false) = some x45 ∧
        CondP x45 (
          ∃ x48, binV (.int .i64) .leq x14 (.int .i64 16) = some x48 ∧
          ∃ x49, pickV x45 x48 (.bool false) = some x49 ∧
          CondP x49 (
            LitP CC 102 3 [(0, (.int .i64 1)), (1, (.int .i64 1)), (2, (.int .i64 0))] w_10 fun x52 w_11 =>
            CallP CC 73 [x52] w_11 fun x53 w_12 =>
            CallP CC 98 [x13, x53] w_12 fun x54 w_13 =>
            ∃ x55, pickV x49 x54 (.bool false) = some x55 ∧
            CondP x55 (
              LitP CC 102 1 [(0, (.int .i64 0))] w_13 fun x58 w_14 =>
              CallP CC 73 [x58] w_14 fun x59 w_15 =>
              CallP CC 98 [x21, x59] w_15 fun x60 w_16 =>
              ∃ x61, pickV x55 x60 (.bool false) = some x61 ∧
              CondP x61 (
                CallP CC 107 [] w_16 fun x63 w_17 =>
                CallP CC 54 [x63] w_17 fun x64 w_18 =>
                ∃ x65, pickV x61 x64 (.bool false) = some x65 ∧
                CondP x65 (
                  CallP CC 107 [] w_18 fun x67 w_19 =>
                  CallP CC 56 [x67, x13] w_19 fun x69 w_20 =>
                  ∃ x70, pickV x65 x69 (.bool false) = some x70 ∧
                  R x70 w_20) (
                  R (.bool false) w_18)) (
                R (.bool false) w_16)) (
              R (.bool false) w_13)) (
            R (.bool false) w_10)) (
          R (.bool false) w_10)) (
        R (.bool false) w_10)) (
      R (.bool false) w_10)) (
    R (.bool false) w_10)
theorem V48_eq (w : World) (R : Value → World → Prop) : V48  w R = FnP CC { keep := fun _ => [], lin := fun | 4 => [1000001] | _ => [] } Tryz.f48 [] w R := by kernel_rfl
theorem call48 {w : World} {R : Value → World → Prop} (h : V48  w R) : CallP CC 48 [] w R :=
  call_of_vc CC.ok _ Tryz.func48 (V48_eq  w R ▸ h)
end Go.Proofs.YtaajkcngcalgoaaGreat
namespace Go.Proofs.YtaajkcngcalgoaaGreat
open Go Go.Vc Go.Spx
attribute [local irreducible] Tryz.prog
section
variable {c c' d : Bool} {L M K base : Nat} {w w' w'' : World} {v o u a q : Value} {x y z : Rat} {xs ys row : List Rat} {m m' : List (List Rat)} {S P P' Q Q' : Nat → Prop} {cs vs : List Value} {b : Bin} {e : TypeId} {l : List Int} {n : BNode}
theorem I64O.grow (h : I64O base w v l) (hg : Grow w w') : I64O base w' v l := ⟨Vc.Own.grow h.1 hg, h.2⟩
theorem I64O.md (h : I64O base w v l) (hm : Md S w w') (hd : ∀ k, v.ownBlock = some k → ¬ S k) : I64O base w' v l := ⟨Vc.Own.md h.1 hm hd, h.2⟩
theorem I64O.down {base' : Nat} (h : I64O base w v l) (hb : base' ≤ base) : I64O base' w v l := ⟨Vc.Own.base h.1 hb, h.2⟩
theorem I64O.block (h : I64O base w v l) : ∀ k, v.ownBlock = some k → base ≤ k ∧ k < w.heap.size := Vc.Own.block h.1
theorem I64O.len (h : I64O base w v l) : ∃ a cap, v = .slice a l.length cap := Vc.Own.len h.1
theorem I64O.ne {g e : Nat} (h : I64O base w v l) (hb : Blk w g e cs) (he : e ≠ 2) : v.ownBlock ≠ some g := Vc.Own.ne h.1 hb he
theorem I64O.ints (h : I64O base w v l) (hn : l.length ≤ 1048576) : Ints 2 (fun k => base ≤ k) w v l := ⟨Vc.Own.sli h.1 (by omega) (fun g hg _ => hg), h.2⟩
theorem I64O.idx (h : I64O base w v l) {i : Nat} (hi : i < l.length) : ∃ g, v.ownBlock = some g ∧ indexAddrV (.slice 1) v (.int .i64 (i : Nat)) = some (.pointer (some ⟨g, i, none⟩)) := by
  have := Vc_idx h.1 (k := .i64) hi; simpa using this
theorem I64O.store {i g : Nat} {k : Int} {K : World → Prop} (h : I64O base w v l) (hg : v.ownBlock = some g) (hi : i < l.length) (hk : -9223372036854775808 ≤ k ∧ k < 9223372036854775808)
    (hK : ∀ w', Md (fun g => v.ownBlock = some g) w w' → I64O base w' v (l.set i k) → K w') : StoreP CC 2 (.pointer (some ⟨g, i, none⟩)) (.int .i64 k) w K := by
  have := Vc_store (C := CC) (K := K) ti2 h.1 hg hi (v := .int .i64 k) rfl (by simp [Value.cells, Value.oneCell']) (by decide) fun w' hm ho' => by
    refine hK w' hm ⟨?_, fun x hx => ?_⟩
    · have hc : (Value.int .i64 k).cells.toList = [.int .i64 k] := rfl
      rw [hc, over_one (by simpa using hi)] at ho'
      rw [List.map_set]; simpa using ho'
    · rcases List.mem_or_eq_of_mem_set hx with h' | h'
      · exact h.2 x h'
      · rw [h']; exact hk
  simpa using this
theorem c111 {i : Nat} (hn : NodeR P w v n) (hlo : i < n.lo.length) (hhi : i < n.hi.length) (hle1 : n.lo.length ≤ 1048576) (hle2 : n.hi.length ≤ 1048576) (hd : n.depth < 4611686018427387904) :
    CallP CC 111 [v, .int .i64 (i : Nat)] w fun r w' => Grow w w' ∧ ∃ zv ov, r = .tuple #[zv, ov] ∧ NodeR (fun k => w.heap.size ≤ k) w' zv (zeroOf n i) ∧ NodeR (fun k => w.heap.size ≤ k) w' ov (oneOf n i) := by
  obtain ⟨lo, hi, rfl, hlo', hhi'⟩ := hn
  have hn1 : Ints 2 (fun k => k < w.heap.size) w lo n.lo := hlo'.mono fun k hk _ => hk
  have hn2 : Ints 2 (fun k => k < w.heap.size) w hi n.hi := hhi'.mono fun k hk _ => hk
  apply call111
  refine BoxP.mk fun g2 w1 hg1 hl2 hl2' hb2 => ?_
  have z1 := hg1.size
  have hb2 : Blk w1 g2 154 [lo, hi, .int .i64 (n.depth : Nat)] := hb2
  refine AllocP.mk (C := CC) ti154 fun g4 w2 hg2 hl4 hl4' hb4 => ?_
  have z2 := hg2.size
  refine AllocP.mk (C := CC) ti154 fun g5 w3 hg3 hl5 hl5' hb5 => ?_
  have z3 := hg3.size
  have hb23 := (hb2.grow hg2).grow hg3
  have hb43 := hb4.grow hg3
  have hn13 := ((hn1.grow hg1).grow hg2).grow hg3
  have hn23 := ((hn2.grow hg1).grow hg2).grow hg3
  have eadd : binV (.int .i64) .add (.int .i64 (n.depth : Nat)) (.int .i64 1) = some (.int .i64 ((n.depth + 1 : Nat) : Int)) := Lx.bin_add (b := 1) (by omega)
  -- the first
  refine ⟨PhS (fun k => k = g4), fun l w' => match l with
      | [] => Grow w3 w'
      | [v9] => Grow w3 w' ∧ I64O w3.heap.size w' v9 n.lo
      | [v9, v13] => Grow w3 w' ∧ I64O w3.heap.size w' v9 n.lo ∧ I64O w3.heap.size w' v13 n.hi ∧ ∀ k, v9.ownBlock = some k → v13.ownBlock ≠ some k
      | v9 :: v13 :: _ => Md (fun k => k = g4) w3 w' ∧ I64O w3.heap.size w' v9 n.lo ∧ I64O w3.heap.size w' v13 n.hi ∧ (∀ k, v9.ownBlock = some k → v13.ownBlock ≠ some k) ∧ Blk w' g4 154 [v9, v13, .int .i64 ((n.depth + 1 : Nat) : Int)], PhS.grow _, PhS.trans _, fun _ hg => hg,
    fun z _ => z = lo, fun z _ => ∃ a c, z = .slice a n.lo.length c, fun z _ => z = hi, fun z _ => ∃ a c, z = .slice a n.hi.length c, fun z _ => z = .int .i64 (n.depth : Nat), fun _ _ => True, ?_, ?_, ?_, ?_, ?_, ?_, ?_, ?_, ?_, ?_, ?_, ?_, ?_, ?_, ?_⟩
  any_goals ((try dsimp only [Fw, Fl]); intros; first | exact ⟨_, rfl⟩ | fail)
  · intro j w' hn ht
    exact LoadP.fld (o := 0) (hb23.md ht.md (by omega)) ti102 rfl ⟨Grow.refl _, fun _ _ _ => rfl⟩
  · intro v8 j w' hn ht e _ e8
    subst e
    have hg := ht.z0
    rw [e8]
    refine (c176 (hn13.grow hg) hle1).mono ?_
    rintro r w5 ⟨hg5, hr⟩
    exact ⟨PhS.next (Md.grow hg5), fun _ _ _ => hr.len, fun w'' hg' => ⟨hg.trans (hg5.trans hg'), (hr.down hg.size).grow hg'⟩⟩
  · intro _ _ j w' hn ht
    exact LoadP.fld (o := 1) (hb23.md ht.md (by omega)) ti102 rfl ⟨Grow.refl _, fun _ _ _ => rfl⟩
  · intro _ v9 v12 j w' hn ht e hL
    subst e
    intros
    rename_i e12
    obtain ⟨hLm, h9⟩ := hL
    rw [e12]
    refine (c176 (hn23.md ht.md fun k hk e => by omega) hle2).mono ?_
    rintro r w5 ⟨hg5, hr⟩
    have z := hLm.size
    exact ⟨PhS.next (Md.grow hg5), fun _ _ _ => hr.len, fun w'' hg' => ⟨hLm.trans (hg5.trans hg'), h9.grow (hg5.trans hg'), (hr.down z).grow hg', fun k hk e => by have := (h9.block k hk).2; have := (hr.block k e).1; omega⟩⟩
  · intro _ v9 _ v13 j w' hn ht
    intros
    rename_i h9 _ h13
    obtain ⟨xa, xc, rfl⟩ := h9
    obtain ⟨ya, yc, rfl⟩ := h13
    exact ⟨_, rfl⟩
  · intro _ _ _ _ j w' hn ht
    exact LoadP.fld (o := 2) (hb23.md ht.md (by omega)) ti3 rfl ⟨Grow.refl _, fun _ _ _ => rfl⟩
  · intro _ _ _ _ v16 j w' hn ht
    intros
    rename_i e
    rw [e]; exact ⟨_, eadd⟩
  · intro _ v9 _ v13 v16 j w' hn ht
    intros
    rename_i h9 _ h13 e
    rw [e, eadd]
    obtain ⟨xa, xc, rfl⟩ := h9
    obtain ⟨ya, yc, rfl⟩ := h13
    exact ⟨_, rfl⟩
  · intro _ v9 _ v13 v16 j w' hn ht e hL
    subst e
    intros
    rename_i e16
    obtain ⟨hLm, h9, h13, hab⟩ := hL
    rw [e16, eadd]
    obtain ⟨xa, xc, rfl⟩ := h9.len
    obtain ⟨ya, yc, rfl⟩ := h13.len
    have hb4g := hb43.grow hLm
    refine StoreP.row (C := CC) (cs := [.slice xa n.lo.length xc, .slice ya n.hi.length yc, .int .i64 ((n.depth + 1 : Nat) : Int)]) hb4g ti154 rfl rfl (fun t ht => ?_) fun w9 hu9 hb9 => ?_
    · simp only [List.mem_cons, List.not_mem_nil, or_false] at ht
      rcases ht with rfl | rfl | rfl <;> rfl
    have hm9 : Md (fun k => k = g4) w' w9 := Md.of hu9 hb4g (by decide)
    exact ⟨PhS.next hm9, fun _ _ _ => trivial, fun w'' hg' => ⟨((Md.grow hLm).trans hm9).trans (Md.grow hg'), (h9.md hm9 fun k hk e => by have := (h9.block k hk).1; omega).grow hg', (h13.md hm9 fun k hk e => by have := (h13.block k hk).1; omega).grow hg', hab, hb9.grow hg'⟩⟩
  rintro _ v9 _ v13 _ _ _ w24 ht
  intros
  rename_i hL
  obtain ⟨hm24, h9, h13, ha9, hb424⟩ := hL
  have z24 := hm24.size
  have hb224 := hb23.md hm24 (by omega)
  have hb524 := hb5.md hm24 (by omega)
  have hn124 := hn13.md hm24 fun k hk => by omega
  have hn224 := hn23.md hm24 fun k hk => by omega
  -- the second
  refine ⟨PhS (fun k => k = g5), fun l w' => match l with
      | [] => Grow w24 w'
      | [v9] => Grow w24 w' ∧ I64O w24.heap.size w' v9 n.lo
      | [v9, v13] => Grow w24 w' ∧ I64O w24.heap.size w' v9 n.lo ∧ I64O w24.heap.size w' v13 n.hi ∧ ∀ k, v9.ownBlock = some k → v13.ownBlock ≠ some k
      | v9 :: v13 :: _ => Md (fun k => k = g5) w24 w' ∧ I64O w24.heap.size w' v9 n.lo ∧ I64O w24.heap.size w' v13 n.hi ∧ (∀ k, v9.ownBlock = some k → v13.ownBlock ≠ some k) ∧ Blk w' g5 154 [v9, v13, .int .i64 ((n.depth + 1 : Nat) : Int)], PhS.grow _, PhS.trans _, fun _ hg => hg,
    fun z _ => z = lo, fun z _ => ∃ a c, z = .slice a n.lo.length c, fun z _ => z = hi, fun z _ => ∃ a c, z = .slice a n.hi.length c, fun z _ => z = .int .i64 (n.depth : Nat), fun _ _ => True, ?_, ?_, ?_, ?_, ?_, ?_, ?_, ?_, ?_, ?_, ?_, ?_, ?_, ?_, ?_⟩
  any_goals ((try dsimp only [Fw, Fl]); intros; first | exact ⟨_, rfl⟩ | fail)
  · intro j w' hn ht
    exact LoadP.fld (o := 0) (hb224.md ht.md (by omega)) ti102 rfl ⟨Grow.refl _, fun _ _ _ => rfl⟩
  · intro v8 j w' hn ht e _ e8
    subst e
    have hg := ht.z0
    rw [e8]
    refine (c176 (hn124.grow hg) hle1).mono ?_
    rintro r w5 ⟨hg5, hr⟩
    exact ⟨PhS.next (Md.grow hg5), fun _ _ _ => hr.len, fun w'' hg' => ⟨hg.trans (hg5.trans hg'), (hr.down hg.size).grow hg'⟩⟩
  · intro _ _ j w' hn ht
    exact LoadP.fld (o := 1) (hb224.md ht.md (by omega)) ti102 rfl ⟨Grow.refl _, fun _ _ _ => rfl⟩
  · intro _ v9 v12 j w' hn ht e hL
    subst e
    intros
    rename_i e12
    obtain ⟨hLm, h9⟩ := hL
    rw [e12]
    refine (c176 (hn224.md ht.md fun k hk e => by omega) hle2).mono ?_
    rintro r w5 ⟨hg5, hr⟩
    have z := hLm.size
    exact ⟨PhS.next (Md.grow hg5), fun _ _ _ => hr.len, fun w'' hg' => ⟨hLm.trans (hg5.trans hg'), h9.grow (hg5.trans hg'), (hr.down z).grow hg', fun k hk e => by have := (h9.block k hk).2; have := (hr.block k e).1; omega⟩⟩
  · intro _ v9 _ v13 j w' hn ht
    intros
    rename_i h9 _ h13
    obtain ⟨xa, xc, rfl⟩ := h9
    obtain ⟨ya, yc, rfl⟩ := h13
    exact ⟨_, rfl⟩
  · intro _ _ _ _ j w' hn ht
    exact LoadP.fld (o := 2) (hb224.md ht.md (by omega)) ti3 rfl ⟨Grow.refl _, fun _ _ _ => rfl⟩
  · intro _ _ _ _ v16 j w' hn ht
    intros
    rename_i e
    rw [e]; exact ⟨_, eadd⟩
  · intro _ v9 _ v13 v16 j w' hn ht
    intros
    rename_i h9 _ h13 e
    rw [e, eadd]
    obtain ⟨xa, xc, rfl⟩ := h9
    obtain ⟨ya, yc, rfl⟩ := h13
    exact ⟨_, rfl⟩
  · intro _ v9 _ v13 v16 j w' hn ht e hL
    subst e
    intros
    rename_i e16
    obtain ⟨hLm, h9, h13, hab⟩ := hL
    rw [e16, eadd]
    obtain ⟨xa, xc, rfl⟩ := h9.len
    obtain ⟨ya, yc, rfl⟩ := h13.len
    have hb4g := hb524.grow hLm
    refine StoreP.row (C := CC) (cs := [.slice xa n.lo.length xc, .slice ya n.hi.length yc, .int .i64 ((n.depth + 1 : Nat) : Int)]) hb4g ti154 rfl rfl (fun t ht => ?_) fun w9 hu9 hb9 => ?_
    · simp only [List.mem_cons, List.not_mem_nil, or_false] at ht
      rcases ht with rfl | rfl | rfl <;> rfl
    have hm9 : Md (fun k => k = g5) w' w9 := Md.of hu9 hb4g (by decide)
    exact ⟨PhS.next hm9, fun _ _ _ => trivial, fun w'' hg' => ⟨((Md.grow hLm).trans hm9).trans (Md.grow hg'), (h9.md hm9 fun k hk e => by have := (h9.block k hk).1; omega).grow hg', (h13.md hm9 fun k hk e => by have := (h13.block k hk).1; omega).grow hg', hab, hb9.grow hg'⟩⟩
  rintro _ v22 _ v26 _ _ _ w45 ht
  intros
  rename_i hL
  obtain ⟨hm45, h22, h26, ha22, hb545⟩ := hL
  have z45 := hm45.size
  have h9b := h9.block
  have h13b := h13.block
  have h22b := h22.block
  have h26b := h26.block
  have h9 : I64O w3.heap.size w45 v9 n.lo := h9.md hm45 fun k hk e => by have := (h9b k hk).1; omega
  have h13 : I64O w3.heap.size w45 v13 n.hi := h13.md hm45 fun k hk e => by have := (h13b k hk).1; omega
  have hb445 : Blk w45 g4 154 [v9, v13, .int .i64 ((n.depth + 1 : Nat) : Int)] := hb424.md hm45 (by omega)
  -- the bounds are set
  obtain ⟨ga, hga, hida⟩ := h13.idx hhi
  obtain ⟨gb, hgb, hidb⟩ := h22.idx hlo
  have hida' : indexAddrV (tyOf tyTab 102) v13 (.int .i64 (i : Nat)) = _ := hida
  have hidb' : indexAddrV (tyOf tyTab 102) v22 (.int .i64 (i : Nat)) = _ := hidb
  have hab : ∀ k, v13.ownBlock = some k → v22.ownBlock ≠ some k := fun k hk e => by have := (h13b k hk).2; have := (h22b k e).1; omega
  refine ⟨PhS (fun k => v13.ownBlock = some k ∨ v22.ownBlock = some k), fun l w' => match l with
      | [] => I64O w3.heap.size w' v9 n.lo ∧ I64O w3.heap.size w' v13 n.hi ∧ I64O w24.heap.size w' v22 n.lo ∧ I64O w24.heap.size w' v26 n.hi ∧ Md (fun k => w3.heap.size ≤ k) w45 w'
      | [_] => I64O w3.heap.size w' v9 n.lo ∧ I64O w3.heap.size w' v13 (n.hi.set i 0) ∧ I64O w24.heap.size w' v22 n.lo ∧ I64O w24.heap.size w' v26 n.hi ∧ Md (fun k => w3.heap.size ≤ k) w45 w'
      | _ => I64O w3.heap.size w' v9 n.lo ∧ I64O w3.heap.size w' v13 (n.hi.set i 0) ∧ I64O w24.heap.size w' v22 (n.lo.set i 1) ∧ I64O w24.heap.size w' v26 n.hi ∧ Md (fun k => w3.heap.size ≤ k) w45 w', PhS.grow _, PhS.trans _, fun w' hg => ⟨h9.grow hg, h13.grow hg, h22.grow hg, h26.grow hg, Md.grow hg⟩,
    fun z _ => z = v13, fun z _ => z = v22, fun _ _ => True, fun _ _ => True, ?_, ?_, ?_, ?_, ?_, ?_, ?_, ?_, ?_, ?_, ?_⟩
  any_goals ((try dsimp only [Fw, Fl]); intros; first | exact ⟨_, rfl⟩ | fail)
  · intro j w' hn ht
    exact LoadP.fld (o := 1) (hb445.md ht.md (by rintro (e | e); exact h13.ne hb445 (by decide) e; exact h22.ne hb445 (by decide) e)) ti102 rfl ⟨Grow.refl _, fun _ _ _ => rfl⟩
  · intro _ j w' hn ht
    exact LoadP.fld (o := 0) (hb545.md ht.md (by rintro (e | e); exact h13.ne hb545 (by decide) e; exact h22.ne hb545 (by decide) e)) ti102 rfl ⟨Grow.refl _, fun _ _ _ => rfl⟩
  · intro v34 _ j w' hn ht e; rw [e]; exact ⟨_, hida'⟩
  · intro v34 _ j w' hn ht e hL e34
    subst e
    obtain ⟨q1, q2, q3, q4, q5⟩ := hL
    rw [e34, hida']
    refine q2.store hga hhi (by decide) fun w5 hm5 q2' => ⟨PhS.next (hm5.mono fun k hk => .inl hk), fun _ _ _ => trivial, fun w'' hg => ⟨(q1.md hm5 fun k hk e => ha9 k hk e).grow hg, q2'.grow hg, (q3.md hm5 fun k hk e => hab k e hk).grow hg, (q4.md hm5 fun k hk e => by have := (h13b k e).2; have := (h26b k hk).1; omega).grow hg, (q5.trans (hm5.mono fun k hk => (h13b k hk).1)).trans (Md.grow hg)⟩⟩
  · intro _ v38 _ j w' hn ht
    intros
    rename_i e38 _
    rw [e38]; exact ⟨_, hidb'⟩
  · intro v34 v38 _ j w' hn ht e hL e34 e38 _
    subst e
    obtain ⟨q1, q2, q3, q4, q5⟩ := hL
    rw [e38, hidb']
    refine q3.store hgb hlo (by decide) fun w5 hm5 q3' => ⟨PhS.next (hm5.mono fun k hk => .inr hk), fun _ _ _ => trivial, fun w'' hg => ⟨(q1.md hm5 fun k hk e => by have := (h9b k hk).2; have := (h22b k e).1; omega).grow hg, (q2.md hm5 fun k hk e => hab k hk e).grow hg, q3'.grow hg, (q4.md hm5 fun k hk e => ha22 k e hk).grow hg, (q5.trans (hm5.mono fun k hk => by have := (h22b k hk).1; omega)).trans (Md.grow hg)⟩⟩
  rintro _ _ _ _ _ w60 ht _ _ _ _ ⟨q1, q2, q3, q4, q5⟩
  have hb460 : Blk w60 g4 154 [v9, v13, .int .i64 ((n.depth + 1 : Nat) : Int)] := hb445.md ht.md (by rintro (e | e); exact h13.ne hb445 (by decide) e; exact h22.ne hb445 (by decide) e)
  have hb560 : Blk w60 g5 154 [v22, v26, .int .i64 ((n.depth + 1 : Nat) : Int)] := hb545.md ht.md (by rintro (e | e); exact h13.ne hb545 (by decide) e; exact h22.ne hb545 (by decide) e)
  have one3 : ∀ {x y : Value} {l l' : List Int} {b1 b2 : Nat} {w : World}, I64O b1 w x l → I64O b2 w y l' → ∀ t ∈ [x, y, Value.int .i64 ((n.depth + 1 : Nat) : Int)], t.oneCell' = true := by
    intro x y l l' b1 b2 w hx hy t ht
    simp only [List.mem_cons, List.not_mem_nil, or_false] at ht
    obtain ⟨_, _, rfl⟩ := hx.len
    obtain ⟨_, _, rfl⟩ := hy.len
    rcases ht with rfl | rfl | rfl <;> rfl
  have z60 := q5.size
  refine ⟨PhB (fun k => k = g4 ∨ k = g5) g5 154 1, fun l w' => match l with
      | [] => Blk w' g4 154 [v9, v13, .int .i64 ((n.depth + 1 : Nat) : Int)] ∧ Blk w' g5 154 [v22, v26, .int .i64 ((n.depth + 1 : Nat) : Int)]
      | _ => Blk w' g4 154 [v9, v13, .int .i64 ((n.depth + 1 : Nat) : Int)] ∧ Blk w' g5 154 [v22, v26, .int .i64 ((n.depth + 1 : Nat) : Int)], PhB.grow _ _ _ _, PhB.trans _ _ _ _, fun w' hg => ⟨hb460.grow hg, hb560.grow hg⟩,
    fun z _ => z = .agg #[v9, v13, .int .i64 ((n.depth + 1 : Nat) : Int)], fun z _ => z = .agg #[v22, v26, .int .i64 ((n.depth + 1 : Nat) : Int)], fun _ _ => True, fun _ _ => True, ?_, ?_, ?_, ?_, ?_⟩
  · intro j w' hn ht
    obtain ⟨rfl, hg⟩ := ht.z hn
    exact LoadP.row (C := CC) ti154 (hb460.grow hg) rfl ⟨Grow.refl _, fun _ _ _ => rfl⟩
  · intro _ j w' hn ht
    exact LoadP.row (C := CC) ti154 (ht.blk hn hb560) rfl ⟨Grow.refl _, fun _ _ _ => rfl⟩
  · intro v42 _ j w' hn ht e hL e42
    subst e
    rw [e42]
    refine StoreP.row (C := CC) (cs := [v9, v13, .int .i64 ((n.depth + 1 : Nat) : Int)]) hL.1 ti154 rfl rfl (one3 q1 q2) fun w5 hu5 hb5' => ?_
    have hm5 := Md.of hu5 hL.1 (by decide)
    exact ⟨PhB.next (hm5.mono fun k hk => .inl hk) (fun _ cs hb => hb.md hm5 (by omega)), fun _ _ _ => trivial, fun w'' hg => ⟨hb5'.grow hg, (hL.2.md hm5 (by omega)).grow hg⟩⟩
  · intro _ v43 _ j w' hn ht e hL
    subst e
    intros
    rename_i e43 _
    rw [e43]
    refine StoreP.row (C := CC) (cs := [v22, v26, .int .i64 ((n.depth + 1 : Nat) : Int)]) hL.2 ti154 rfl rfl (one3 q3 q4) fun w5 hu5 hb5' => ?_
    have hm5 := Md.of hu5 hL.2 (by decide)
    exact ⟨PhB.next (hm5.mono fun k hk => .inr hk) (fun h => by omega), fun _ _ _ => trivial, fun w'' hg => ⟨(hL.1.md hm5 (by omega)).grow hg, hb5'.grow hg⟩⟩
  rintro _ _ _ _ _ w69 ht' _ _ _ _ ⟨hb469, hb569⟩
  have hSb : ∀ k, w3.heap.size ≤ k → ¬ (k = g4 ∨ k = g5) := fun k hk e => by omega
  have ints : ∀ {x : Value} {l : List Int} {b1 : Nat}, I64O b1 w60 x l → w3.heap.size ≤ b1 → l.length ≤ 1048576 → Ints 2 (fun k => w.heap.size ≤ k) w69 x l := fun h hb hl => by
    refine (((h.down hb).md ht'.md fun k hk => hSb k ((h.down hb).block k hk).1).ints hl).mono fun k _ hk => ?_
    omega
  refine ⟨_, _, rfl, res_row (P := CC.P) ti154 hb469 rfl, _, _, rfl, res_row (P := CC.P) ti154 hb569 rfl, ?_, _, _, rfl, ⟨v9, v13, rfl, ints q1 (Nat.le_refl _) hle1, ints q2 (Nat.le_refl _) (by show (n.hi.set i 0).length ≤ _; rw [List.length_set]; exact hle2)⟩, ⟨v22, v26, rfl, ints q3 z24 (by show (n.lo.set i 1).length ≤ _; rw [List.length_set]; exact hle1), ints q4 z24 hle2⟩⟩
  refine Md.new hg1 (S := fun k => w1.heap.size ≤ k) ?_ fun k hk => by omega
  refine ((Md.grow (hg2.trans hg3)).trans (hm24.mono fun k hk => by omega)).trans ?_
  exact ((hm45.mono fun k hk => by omega).trans (q5.mono fun k hk => by omega)).trans (ht'.md.mono fun k hk => by omega)
end
end Go.Proofs.YtaajkcngcalgoaaGreat
namespace Go.Proofs.YtaajkcngcalgoaaGreat
open Go Go.Vc Go.Spx
attribute [local irreducible] Tryz.prog
section
variable {c c' d : Bool} {L M K base : Nat} {w w' w'' : World} {v o u a q : Value} {x y z : Rat} {xs ys row : List Rat} {m m' : List (List Rat)} {S P P' Q Q' : Nat → Prop} {cs vs : List Value} {b : Bin} {e : TypeId} {l : List Int} {n : BNode}
theorem Ints.md2 (h : Ints e P w v l) (hm : Md S w w') (hn : NoB e S w) : Ints e P w' v l := by
  refine ⟨⟨h.1.1, ?_⟩, h.2⟩
  rcases h.1.2 with h | ⟨g, off, cap, hv, hl, hpg, c, fr, hg, hc⟩
  · exact .inl h
  · exact .inr ⟨g, off, cap, hv, hl, hpg, c, fr, hm.upd.block g _ (fun hs => hn g hs c fr hg) hg, hc⟩
abbrev NT := Value × Value × Nat
def NodeT (P : Nat → Prop) (w : World) (t : NT) (n : BNode) : Prop := Ints 2 P w t.1 n.lo ∧ Ints 2 P w t.2.1 n.hi ∧ t.2.2 = n.depth
def NodesR (P : Nat → Prop) (w : World) : List NT → List BNode → Prop
  | [], [] => True
  | t :: ts, n :: ns => NodeT P w t n ∧ NodesR P w ts ns
  | _, _ => False
def tcell (t : NT) : List Value := [t.1, t.2.1, .int .i64 (t.2.2 : Nat)]
def flat (ts : List NT) : List Value := ts.flatMap tcell
def StackO (base : Nat) (P : Nat → Prop) (w : World) (v : Value) (ns : List BNode) : Prop := ∃ ts, Vc.Own w base 154 3 v ts.length (flat ts.reverse) ∧ NodesR P w ts ns
theorem NodeT.grow {t : NT} (h : NodeT P w t n) (hg : Grow w w') : NodeT P w' t n := ⟨h.1.grow hg, h.2.1.grow hg, h.2.2⟩
theorem NodeT.md2 {t : NT} (h : NodeT P w t n) (hm : Md S w w') (hn : NoB 2 S w) : NodeT P w' t n := ⟨h.1.md2 hm hn, h.2.1.md2 hm hn, h.2.2⟩
theorem NodesR.grow (hg : Grow w w') : ∀ {ts : List NT} {ns : List BNode}, NodesR P w ts ns → NodesR P w' ts ns
  | [], [], h => h
  | t :: ts, n :: ns, h => ⟨h.1.grow hg, NodesR.grow hg h.2⟩
theorem NodesR.md2 (hm : Md S w w') (hn : NoB 2 S w) : ∀ {ts : List NT} {ns : List BNode}, NodesR P w ts ns → NodesR P w' ts ns
  | [], [], h => h
  | t :: ts, n :: ns, h => ⟨h.1.md2 hm hn, NodesR.md2 hm hn h.2⟩
theorem NodesR.length : ∀ {ts : List NT} {ns : List BNode}, NodesR P w ts ns → ts.length = ns.length
  | [], [], _ => rfl
  | t :: ts, n :: ns, h => by simp [NodesR.length h.2]
theorem NodeT.node {t : NT} (h : NodeT P w t n) : NodeR P w (.agg (tcell t).toArray) n := ⟨t.1, t.2.1, by rw [← h.2.2]; rfl, h.1, h.2.1⟩
theorem NodeR.t (h : NodeR P w v n) : ∃ t : NT, v = .agg (tcell t).toArray ∧ NodeT P w t n := by
  obtain ⟨lo, hi, rfl, h1, h2⟩ := h
  exact ⟨(lo, hi, n.depth), rfl, h1, h2, rfl⟩
theorem NodeT.one {t : NT} (h : NodeT P w t n) : ∀ u ∈ tcell t, u.oneCell' = true := by
  intro u hu
  simp only [tcell, List.mem_cons, List.not_mem_nil, or_false] at hu
  rcases hu with rfl | rfl | rfl
  · exact h.1.one
  · exact h.2.1.one
  · rfl
theorem flat_length (ts : List NT) : (flat ts).length = ts.length * 3 := by
  induction ts with
  | nil => rfl
  | cons t ts ih => unfold flat at ih ⊢; rw [List.flatMap_cons, List.length_append, ih]; simp [tcell]; omega
theorem flat_rev (t : NT) (ts : List NT) : flat (t :: ts).reverse = flat ts.reverse ++ tcell t := by
  unfold flat; rw [List.reverse_cons, List.flatMap_append]; simp
theorem StackO.grow {ns : List BNode} (h : StackO base P w v ns) (hg : Grow w w') : StackO base P w' v ns := by
  obtain ⟨ts, h1, h2⟩ := h; exact ⟨ts, Vc.Own.grow h1 hg, h2.grow hg⟩
theorem StackO.md2 {ns : List BNode} (h : StackO base P w v ns) (hm : Md S w w') (hv : ∀ k, v.ownBlock = some k → ¬ S k) (hn : NoB 2 S w) : StackO base P w' v ns := by
  obtain ⟨ts, h1, h2⟩ := h; exact ⟨ts, Vc.Own.md h1 hm hv, h2.md2 hm hn⟩
theorem StackO.block {ns : List BNode} (h : StackO base P w v ns) : ∀ k, v.ownBlock = some k → base ≤ k ∧ k < w.heap.size := by
  obtain ⟨ts, h1, _⟩ := h; exact Vc.Own.block h1
theorem StackO.len {ns : List BNode} (h : StackO base P w v ns) : ∃ a cap, v = .slice a ns.length cap := by
  obtain ⟨ts, h1, h2⟩ := h; rw [← h2.length]; exact Vc.Own.len h1
theorem StackO.top {ns : List BNode} {k : Value → World → Prop} {ad : Value} (h : StackO base P w v (n :: ns)) (hl : ns.length < 1048576) (had : indexAddrV (.slice 3) v (.int .i64 (ns.length : Nat)) = some ad)
    (hk : ∀ t, NodeT P w t n → k (.agg (tcell t).toArray) w) : LoadP CC 154 ad w k := by
  obtain ⟨ts, h1, h2⟩ := h
  cases ts with
  | nil => exact h2.elim
  | cons t ts =>
    have hlen := h2.2.length
    have hs := Vc.Own.sli (p := fun _ _ => True) h1 (by simp; omega) (fun _ _ _ => trivial)
    refine Sli.loadN (C := CC) hs ti154 had (by simp; omega) ?_
    have e : Vc.cut (flat (t :: ts).reverse) (ns.length * 3) 3 = tcell t := by
      rw [flat_rev]
      unfold Vc.cut
      rw [← hlen, List.drop_left' (by rw [flat_length, List.length_reverse])]
      rfl
    rw [e]
    exact hk t h2.1
theorem StackO.idx {ns : List BNode} (h : StackO base P w v (n :: ns)) : ∃ x, indexAddrV (.slice 3) v (.int .i64 (ns.length : Nat)) = some x := by
  obtain ⟨ts, h1, h2⟩ := h
  cases ts with
  | nil => exact h2.elim
  | cons t ts =>
    have hlen := h2.2.length
    obtain ⟨g, _, e⟩ := Vc_idx h1 (k := .i64) (i := ns.length) (by simp; omega)
    exact ⟨_, e⟩
theorem StackO.pop {ns : List BNode} (h : StackO base P w v (n :: ns)) : ∃ v', sliceV (.slice 3) v none (some (.int .i64 (ns.length : Nat))) = some v' ∧ StackO base P w v' ns ∧ v'.ownBlock = v.ownBlock := by
  obtain ⟨ts, h1, h2⟩ := h
  cases ts with
  | nil => exact h2.elim
  | cons t ts =>
    have hlen := h2.2.length
    rw [flat_rev] at h1
    obtain ⟨a, cap, rfl⟩ := Vc.Own.len h1
    rcases h1.2 with ⟨he, h0⟩ | ⟨g, cap', cur, hv, hb, hgg, hn, hm, hs, ht⟩
    · simp at h0
    · cases hv
      refine ⟨.slice (some ⟨g, 0, none⟩) ns.length cap, ?_, ⟨ts, ?_, h2.2⟩, rfl⟩
      · have hc : ns.length ≤ cap := by simp at hn; omega
        simp [sliceV, natV, hc]
      · rw [hlen]
        exact ownsRow_pop (last := tcell t) (by rw [flat_length, List.length_reverse]; omega) (by rw [List.length_cons, hlen] at h1; exact h1)
theorem StackO.push2 {ns : List BNode} {n2 : BNode} {K : Value → World → Prop} {u u2 : Value} (h : StackO base P w v ns) (h1 : NodeR P w u n) (h2 : NodeR P w u2 n2) (hb : base ≤ w.heap.size) (hl : ns.length < 1048576)
    (hk : ∀ v' w', StackO base P w' v' (n2 :: n :: ns) → Md (fun g => v.ownBlock = some g) w w' → (∀ g, v'.ownBlock = some g → v.ownBlock = some g ∨ w.heap.size ≤ g) → K v' w') :
    LitP CC 155 2 [(0, u), (1, u2)] w fun s w1 => AppendP CC #[155, 155] 155 [v, s] w1 K := by
  obtain ⟨ts, h3, h4⟩ := h
  obtain ⟨t1, rfl, ht1⟩ := h1.t
  obtain ⟨t2, rfl, ht2⟩ := h2.t
  have hlen := h4.length
  refine LitP.mk (C := CC) sl155 ti154 rfl (by decide) (by decide) (cs := tcell t1 ++ tcell t2) ?_ fun g w1 hg1 hlt hlt' hbl => ?_
  · simp [fillV, Value.cells, tcell, rep, over]
  have hs := Vc.Own.sli (p := fun _ _ => True) (Vc.Own.lit (sz := 3) (n := 2) hbl (by simp [tcell]) hlt (by decide)) (by omega) (fun _ _ _ => trivial)
  refine AppendP.own (C := CC) sl155 ti154 rfl (by decide) (Vc.Own.grow h3 hg1) hs (fun t ht => ?_) (by omega) (by simp only [maxLen]; omega) (by have := hg1.size; omega) fun o' w' ho' hu hf => ?_
  · rcases List.mem_append.1 ht with h | h
    · exact ht1.one t h
    · exact ht2.one t h
  have hm := Md.own hu (Vc.Own.grow h3 hg1) (by decide)
  have hnb : NoB 2 (fun g => v.ownBlock = some g) w1 := NoB.own (Vc.Own.grow h3 hg1) (by decide)
  refine hk _ _ ⟨t2 :: t1 :: ts, ?_, (ht2.grow hg1).md2 hm hnb, (ht1.grow hg1).md2 hm hnb, (h4.grow hg1).md2 hm hnb⟩ ?_ fun g hg => ?_
  · rw [flat_rev, flat_rev, List.append_assoc]; simpa using ho'
  · refine (Md.grow hg1).trans hm
  · rcases hf g hg with h | h
    · exact .inl h
    · exact .inr (by have := hg1.size; omega)
theorem c109 {g1 g5 g6 gs : Nat} {f : Bool} {best fv st : Value} {bl : List Rat} {k W : Nat} (hx : Vec true W Q w o xs) (hf : Blk w g6 4 [.bool f]) (hat : BinAt true L P w g1 v b) (h5 : Blk w g5 147 [.pointer (some ⟨gs, 0, none⟩)]) (hs : Blk w gs 150 [best, fv, st]) (hbest : f = true → Vec true W Q w best bl)
    (h1 : 2 ≤ L) (h2 : 2 ≤ W) (hN : max (colsOf b.lp.objs) (max xs.length bl.length) ≤ k) (hn : k < 1099511627776) (h4 : 2 + (k + 1) * (L + W + W + 1) < 268435456) (hol : b.lp.objs.length ≤ 1099511627776) :
    CallP CC 109 [o, .pointer (some ⟨g6, 0, none⟩), .pointer (some ⟨g1, 0, none⟩), .pointer (some ⟨g5, 0, none⟩)] w fun r w' => Grow w w' ∧ r = .bool (f && decide (cmpP b.lp xs bl ≤ 0)) := by
  apply call109
  refine ⟨fun z _ => z = .bool f, fun z w' => LpR true L P w' z b.lp, fun z _ => z = .pointer (some ⟨gs, 0, none⟩), fun z _ => z = best, fun z _ => z = .int .i64 (cmpP b.lp xs bl), ?_, ?_, ?_, ?_, ?_, ?_, ?_, ?_, ?_, ?_, ?_⟩
  · intro w1 hg; exact LoadP.fld (C := CC) (o := 0) (hf.grow hg) ti4 rfl ⟨Grow.refl _, fun _ _ => rfl⟩
  · (try dsimp only [Fw, Fl]); intros; exact ⟨_, rfl⟩
  · intro _ w1 hg _ _
    exact (hat.grow hg).lp fun u hu => ⟨Grow.refl _, fun w9 hg9 => hu.grow hg9⟩
  · intro _ _ w1 hg _ _; exact LoadP.fld (C := CC) (o := 0) (h5.grow hg) ti147 rfl ⟨Grow.refl _, fun _ _ => rfl⟩
  · intro _ _ _ w1 hg _ h11 hv; rw [h11 hv]; exact ⟨_, rfl⟩
  · intro _ _ _ w1 hg _ h11 hv; rw [h11 hv]; exact ⟨_, rfl⟩
  · intro _ _ _ w1 hg _ h11 hv
    rw [h11 hv]
    exact LoadP.fld (C := CC) (o := 0) (hs.grow hg) ti23 rfl ⟨Grow.refl _, fun _ _ => rfl⟩
  · rintro v6 _ _ _ w1 hg e6 h9 _ h14 hv
    have ef : f = true := by rw [e6] at hv; simpa using hv
    rw [h14 hv]
    exact fc (c29 (h9 hv) (hx.grow hg) ((hbest ef).grow hg) h1 h2 h2 hN hn h4 hol) fun r w5 w6 hr _ => hr
  · intro _ _ _ _ _ w1 hg _ _ _ _ h15 hv; rw [h15 hv]; exact ⟨_, rfl⟩
  · rintro _ _ _ _ _ w1 hg e6 _ _ _ _; rw [e6]; exact ⟨_, rfl⟩
  rintro _ _ _ _ v15 _ w16 hg e6 _ _ _ h15
  refine ⟨hg, ?_⟩
  cases f with
  | false => rw [e6]; rfl
  | true => rw [h15 e6, e6]; rfl
end
end Go.Proofs.YtaajkcngcalgoaaGreat
namespace Go.Proofs.YtaajkcngcalgoaaGreat
open Go Go.Vc Go.Spx
attribute [local irreducible] Tryz.prog
theorem run_x {L fuel : Nat} {p : Lp} {r : Res} (h : run L fuel p = some r) : r.x.length ≤ p.n := by
  unfold run at h
  simp only at h
  cases hbg : begin_ L p with
  | none => rw [hbg] at h; cases h
  | some s0 =>
  rw [hbg] at h
  simp only [Option.bind_some] at h
  cases hfe : feasible L fuel (p.n + p.rows.length) s0 with
  | none => rw [hfe] at h; cases h
  | some y =>
  obtain ⟨s1, bb⟩ := y
  rw [hfe] at h
  simp only [Option.bind_some] at h
  cases bb with
  | false => simp only [Bool.false_eq_true, if_false, Option.some.injEq] at h; rw [← h]; simp
  | true =>
    simp only [if_true, Option.map_eq_some_iff] at h
    obtain ⟨⟨s2, o2⟩, _, hres⟩ := h
    cases o2 with
    | none => simp only at hres; rw [← hres]; simp [Lx.point_length]
    | some k => simp only at hres; rw [← hres]; simp [Lx.point_length]
def BS (b : Bin) (L W base : Nat) (P : Nat → Prop) (gs g1 g5 g6 : Nat) (v fnv : Value) (w : World) (y10 bv : Value) (nodes : List BNode) (best : Option (List Rat)) (st : Nat) : Prop :=
  StackO base (fun _ => True) w y10 nodes ∧ Blk w gs 150 [bv, fnv, .int .i64 (st : Nat)] ∧ Blk w g6 4 [.bool best.isSome] ∧ Blk w g5 147 [.pointer (some ⟨gs, 0, none⟩)] ∧ BinAt true L P w g1 v b ∧ (∀ x, best = some x → Vec true W (fun k => base ≤ k) w bv x ∧ x.length ≤ 64) ∧ bv.oneCell' = true
def stepsOf (gs : Nat) (w : World) : Nat := match w.heap[gs]? with | some (.cells c _ _) => (vint (c.getD 2 undef)).toNat | _ => 0
section
variable {c c' d : Bool} {L M K base W : Nat} {w w' w'' : World} {v o u a q y10 bv fnv : Value} {x y z : Rat} {xs ys row : List Rat} {m m' : List (List Rat)} {S P P' Q Q' : Nat → Prop} {cs vs : List Value} {b : Bin} {e : TypeId} {l : List Int} {n : BNode} {nodes : List BNode} {best : Option (List Rat)} {st gs g1 g5 g6 : Nat}
theorem stepsOf_eq (h : Blk w gs 150 [bv, fnv, .int .i64 (st : Nat)]) : stepsOf gs w = st := by
  unfold stepsOf; unfold Blk at h; rw [h]; simp
theorem BS.grow (h : BS b L W base P gs g1 g5 g6 v fnv w y10 bv nodes best st) (hg : Grow w w') : BS b L W base P gs g1 g5 g6 v fnv w' y10 bv nodes best st := by
  obtain ⟨h1, h2, h3, h4, h5, h6, h7⟩ := h
  exact ⟨h1.grow hg, h2.grow hg, h3.grow hg, h4.grow hg, h5.grow hg, fun x hx => ⟨(h6 x hx).1.grow hg, (h6 x hx).2⟩, h7⟩
theorem BS.rec_ {st' : Nat} {bv' : Value} (h : BS b L W base P gs g1 g5 g6 v fnv w y10 bv nodes best st) (hm : Md (fun k => k = gs) w w') (hb : Blk w' gs 150 [bv', fnv, .int .i64 (st' : Nat)]) (hP : ∀ k, P k → k < base) (hgs : base ≤ gs) (hg1 : g1 < base) (hbv : bv'.oneCell' = true)
    (hbest : ∀ x, best = some x → Vec true W (fun k => base ≤ k) w bv' x ∧ x.length ≤ 64) : BS b L W base P gs g1 g5 g6 v fnv w' y10 bv' nodes best st' := by
  obtain ⟨h1, h2, h3, h4, h5, h6, h7⟩ := h
  refine ⟨h1.md2 hm (fun k hk e => ?_) (NoB.of h2 (by decide)), hb, h3.md hm (Blk.ne h3 h2 (by decide)), h4.md hm (Blk.ne h4 h2 (by decide)), h5.md hm (fun k hk e => by have := hP k hk; omega) (by omega), fun x hx => ⟨?_, (hbest x hx).2⟩, hbv⟩
  · obtain ⟨ts, ho, _⟩ := h1
    exact Vc.Own.ne ho h2 (by decide) (by rw [← e]; exact hk)
  · exact (hbest x hx).1.md2 hm fun k _ hk c fr he => by
      subst hk; unfold Blk at h2; rw [h2] at he; cases he
theorem BS.stack {v' : Value} {nodes' : List BNode} (h : BS b L W base P gs g1 g5 g6 v fnv w y10 bv nodes best st) (hm : Md (fun k => y10.ownBlock = some k) w w') (hs : StackO base (fun _ => True) w' v' nodes') (hP : ∀ k, P k → k < base) (hg1 : g1 < base) : BS b L W base P gs g1 g5 g6 v fnv w' v' bv nodes' best st := by
  obtain ⟨h1, h2, h3, h4, h5, h6, h7⟩ := h
  have hblk := h1.block
  obtain ⟨ts, ho, _⟩ := h1
  refine ⟨hs, h2.md hm (Vc.Own.ne ho h2 (by decide)), h3.md hm (Vc.Own.ne ho h3 (by decide)), h4.md hm (Vc.Own.ne ho h4 (by decide)), h5.md hm (fun k hk e => by have := hP k hk; have := (hblk k e).1; omega) (fun e => by have := (hblk _ e).1; omega), fun y hy => ⟨?_, (h6 y hy).2⟩, h7⟩
  exact (h6 y hy).1.md2 hm fun k _ hk => NoB.own ho (by decide) k hk
end
end Go.Proofs.YtaajkcngcalgoaaGreat
