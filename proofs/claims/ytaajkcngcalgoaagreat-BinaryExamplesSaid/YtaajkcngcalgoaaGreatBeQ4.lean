/- The law BinaryExamples: for every input the call returns true and leaves its arguments as they were. No condition. This text: a part of what that proof needs. -/
import Derived.Test.YtaajkcngcalgoaaGreatBeQ3
import Derived.KernelRfl
set_option maxRecDepth 100000
set_option linter.unusedVariables false
namespace Go.Proofs.YtaajkcngcalgoaaGreat
open Go Go.Vc
def V100 (a0 : Value) (w : World) (R : Value → World → Prop) : Prop :=
  BoxP CC 25 a0 w fun x1 w_1 =>
  AllocP CC 37 w_1 fun x2 w_2 =>
  LoadP CC 25 x1 w_2 fun x14 w_3 =>
  CallP CC 162 [x14] w_3 fun x15 w_4 =>
  ∃ x16, extrV x15 0 = some x16 ∧
  ∃ x17, extrV x15 1 = some x17 ∧
  LoadP CC 25 x1 w_4 fun x18 w_5 =>
  ∃ x21, buildV (τ 206) [(0, x18), (1, x16), (2, x17)] = some x21 ∧
  AllocP CC 206 w_5 fun x5 w_6 =>
  StoreP CC 206 x5 x21 w_6 fun w_7 =>
  LoadP CC 206 x5 w_7 fun x22 w_8 =>
  ∃ x23, some (Value.func (.func 163) #[x22] #[]) = some x23 ∧
  CallP CC 164 [x16, x17] w_8 fun x26 w_9 =>
  ∃ x27, unV .not x26 = some x27 ∧
  CondP x27 (
    LoadP CC 206 x5 w_9 fun x28 w_10 =>
    ∃ x29, some (Value.func (.func 165) #[x28] #[]) = some x29 ∧
    callV CC x29 [(.int .i64 0)] w_10 fun x51 w_11 =>
    AllocP CC 37 w_11 fun x12 w_12 =>
    StoreP CC 37 x12 x51 w_12 fun w_13 =>
    ∃ x53, nilV x16 = some x53 ∧
    ∃ x54, fieldAddrV (τ 215) 3 x53 = some x54 ∧
    LoadP CC 3 x54 w_13 fun x55 w_14 =>
    ∃ x56, fieldAddrV (τ 37) 5 x12 = some x56 ∧
    StoreP CC 3 x56 x55 w_14 fun w_15 =>
    LoadP CC 37 x12 w_15 fun x57 w_16 =>
    StoreP CC 37 x2 x57 w_16 fun w_17 =>
    ∃ ad r, x2 = .pointer (some ad) ∧ (loadVar 37 ad).run CC.P w_17 = .ok r w_17 ∧
    R r w_17) (
    LoadP CC 25 x1 w_9 fun x30 w_18 =>
    CallP CC 166 [x30] w_18 fun x31 w_19 =>
    ∃ x32, lenV (τ 207) x31 = some x32 ∧
    ∃ (I : Value → Value → Value → World → Prop) (μ : Value → Value → Value → World → Nat), I x23 (.int .i64 0) (.int .i64 0) w_19 ∧
    ∀ y6 : Value, ∀ y7 : Value, ∀ y33 : Value, ∀ (h : Nat → Value) (w_20 : World), I y6 y7 y33 w_20 →
      ∃ x34, binV (.int .i64) .lss y33 x32 = some x34 ∧
      CondP x34 (
        ∃ x35, indexAddrV (τ 207) x31 y33 = some x35 ∧
        LoadP CC 210 x35 w_20 fun x36 w_21 =>
        AllocP CC 210 w_21 fun x9 w_22 =>
        StoreP CC 210 x9 x36 w_22 fun w_23 =>
        LoadP CC 210 x9 w_23 fun x39 w_24 =>
        CallP CC 167 [x16, x39] w_24 fun x40 w_25 =>
        ∃ x41, extrV x40 0 = some x41 ∧
        ∃ x42, extrV x40 1 = some x42 ∧
        ∃ x44, unV .not x42 = some x44 ∧
        CondP x44 (
          LoadP CC 206 x5 w_25 fun x45 w_26 =>
          ∃ x46, some (Value.func (.func 168) #[x45] #[]) = some x46 ∧
          callV CC x46 [x41] w_26 fun x51_1 w_27 =>
          AllocP CC 37 w_27 fun x12_1 w_28 =>
          StoreP CC 37 x12_1 x51_1 w_28 fun w_29 =>
          ∃ x53_1, nilV x16 = some x53_1 ∧
          ∃ x54_1, fieldAddrV (τ 215) 3 x53_1 = some x54_1 ∧
          LoadP CC 3 x54_1 w_29 fun x55_1 w_30 =>
          ∃ x56_1, fieldAddrV (τ 37) 5 x12_1 = some x56_1 ∧
          StoreP CC 3 x56_1 x55_1 w_30 fun w_31 =>
          LoadP CC 37 x12_1 w_31 fun x57_1 w_32 =>
          StoreP CC 37 x2 x57_1 w_32 fun w_33 =>
          ∃ ad_1 r_1, x2 = .pointer (some ad_1) ∧ (loadVar 37 ad_1).run CC.P w_33 = .ok r_1 w_33 ∧
          R r_1 w_33) (
          ∃ x48, binV (.int .i64) .add y33 (.int .i64 1) = some x48 ∧
          I y6 y7 x48 w_25 ∧ μ y6 y7 x48 w_25 < μ y6 y7 y33 w_20)) (
        callV CC y6 [y7] w_20 fun x51_2 w_34 =>
        AllocP CC 37 w_34 fun x12_2 w_35 =>
        StoreP CC 37 x12_2 x51_2 w_35 fun w_36 =>
        ∃ x53_2, nilV x16 = some x53_2 ∧
        ∃ x54_2, fieldAddrV (τ 215) 3 x53_2 = some x54_2 ∧
        LoadP CC 3 x54_2 w_36 fun x55_2 w_37 =>
        ∃ x56_2, fieldAddrV (τ 37) 5 x12_2 = some x56_2 ∧
        StoreP CC 3 x56_2 x55_2 w_37 fun w_38 =>
        LoadP CC 37 x12_2 w_38 fun x57_2 w_39 =>
        StoreP CC 37 x2 x57_2 w_39 fun w_40 =>
        ∃ ad_2 r_2, x2 = .pointer (some ad_2) ∧ (loadVar 37 ad_2).run CC.P w_40 = .ok r_2 w_40 ∧
        R r_2 w_40))
theorem V100_eq (a0 : Value) (w : World) (R : Value → World → Prop) : V100 a0 w R = FnP CC { keep := fun | 7 => [6, 7, 33] | _ => [], lin := fun _ => [] } Tryz.f100 [a0] w R := by kernel_rfl
theorem call100 {a0 : Value} {w : World} {R : Value → World → Prop} (h : V100 a0 w R) : CallP CC 100 [a0] w R :=
  call_of_vc CC.ok _ Tryz.func100 (V100_eq a0 w R ▸ h)
def V162 (a0 : Value) (w : World) (R : Value → World → Prop) : Prop :=
  BoxP CC 25 a0 w fun x1 w_1 =>
  ∃ A13 A16 : Value → World → Prop,
  (Fw Grow w_1 fun z => (Is (fieldAddrV (τ 25) 2 x1))) ∧
  (Fw Grow w_1 fun z => (LoadP CC 22 (gd (fieldAddrV (τ 25) 2 x1)) z (Gw Grow A13 z))) ∧
  (∀ v13 : Value, Fw Grow w_1 fun z => A13 v13 z → (Is (lenV (τ 22) v13))) ∧
  (∀ v13 : Value, Fw Grow w_1 fun z => (Is (fieldAddrV (τ 25) 0 x1))) ∧
  (∀ v13 : Value, Fw Grow w_1 fun z => (LoadP CC 3 (gd (fieldAddrV (τ 25) 0 x1)) z (Gw Grow A16 z))) ∧
  ∀ v13 v16 : Value, ∀ (h : Nat → Value) (w_2 : World), Grow w_1 w_2 → A13 v13 w_2 → A16 v16 w_2 → 
  ∃ x19, binV (.int .i64) .add v16 (gd (lenV (τ 22) v13)) = some x19 ∧
  ∃ x20, binV (.int .i64) .add x19 (.int .i64 1) = some x20 ∧
  ∃ x23, binV (.int .i64) .add v16 (gd (lenV (τ 22) v13)) = some x23 ∧
  ∃ x24, binV (.int .i64) .add x23 (.int .i64 1) = some x24 ∧
  MakeP CC 94 x24 x24 w_2 fun x25 w_3 =>
  ∃ x26, buildV (τ 215) [(1, x20), (2, x25)] = some x26 ∧
  BoxP CC 215 x26 w_3 fun x27 w_4 =>
  MakeP CC 22 (gd (lenV (τ 22) v13)) (gd (lenV (τ 22) v13)) w_4 fun x29 w_5 =>
  ∃ x31, lenV (τ 22) x29 = some x31 ∧
  ∃ (I : Value → World → Prop) (μ : Value → World → Nat), I (.int .i64 0) w_5 ∧
  ∀ y32 : Value, ∀ (h_1 : Nat → Value) (w_6 : World), I y32 w_6 →
    ∃ x33, binV (.int .i64) .lss y32 x31 = some x33 ∧
    CondP x33 (
      LitP CC 102 1 [(0, (.int .i64 (-1)))] w_6 fun x37 w_7 =>
      CallP CC 73 [x37] w_7 fun x38 w_8 =>
      ∃ x39, indexAddrV (τ 22) x29 y32 = some x39 ∧
      StoreP CC 23 x39 x38 w_8 fun w_9 =>
      ∃ x40, binV (.int .i64) .add y32 (.int .i64 1) = some x40 ∧
      I x40 w_9 ∧ μ x40 w_9 < μ y32 w_6) (
      ∃ x41, fieldAddrV (τ 25) 2 x1 = some x41 ∧
      LoadP CC 22 x41 w_6 fun x42 w_10 =>
      CallP CC 120 [x42, (gd (lenV (τ 22) v13)), v16] w_10 fun x45 w_11 =>
      CallP CC 141 [(gd (lenV (τ 22) v13))] w_11 fun x47 w_12 =>
      CallP CC 140 [x45, x47] w_12 fun x48 w_13 =>
      CallP CC 140 [x48, x29] w_13 fun x50 w_14 =>
      ∃ (I_1 : Value → Value → World → Prop) (μ_1 : Value → Value → World → Nat), I_1 (.int .i64 0) (.int .i64 0) w_14 ∧
      ∀ y10 : Value, ∀ y52 : Value, ∀ (h_2 : Nat → Value) (w_15 : World), I_1 y10 y52 w_15 →
        ∃ x53, binV (.int .i64) .lss y52 (gd (lenV (τ 22) v13)) = some x53 ∧
        CondP x53 (
          ∃ (T : Nat × World → Nat × World → Prop) (L : List Value → World → Prop), Hg T ∧ Ht T ∧ Hl L w_15 ∧
          ∃ A62 A66 A70 A71 A72 A73 A78 A80 A83 A84 A85 A86 A91 A95 A96 As45 As49 As53 : Value → Nat × World → Prop,
          (Fl T w_15 0 fun n z => (Is (nilV x27))) ∧
          (Fl T w_15 0 fun n z => (Is (fieldAddrV (τ 215) 0 (gd (nilV x27))))) ∧
          (Fl T w_15 0 fun n z => (Is (fieldAddrV (τ 213) 0 (gd (fieldAddrV (τ 215) 0 (gd (nilV x27))))))) ∧
          (Fl T w_15 0 fun n z => (LoadP CC 22 (gd (fieldAddrV (τ 213) 0 (gd (fieldAddrV (τ 215) 0 (gd (nilV x27)))))) z (Gk T A62 n z))) ∧
          (∀ v62 : Value, Fl T w_15 0 fun n z => (Is (indexAddrV (τ 22) x50 y52))) ∧
          (∀ v62 : Value, Fl T w_15 0 fun n z => (LoadP CC 23 (gd (indexAddrV (τ 22) x50 y52)) z (Gk T A66 n z))) ∧
          (∀ v62 v66 : Value, Fl T w_15 0 fun n z => (Is (nilV x27))) ∧
          (∀ v62 v66 : Value, Fl T w_15 0 fun n z => (Is (fieldAddrV (τ 215) 1 (gd (nilV x27))))) ∧
          (∀ v62 v66 : Value, Fl T w_15 0 fun n z => (LoadP CC 3 (gd (fieldAddrV (τ 215) 1 (gd (nilV x27)))) z (Gk T A70 n z))) ∧
          (∀ v62 v66 v70 : Value, Fl T w_15 0 fun n z => A66 v66 (n, z) → A70 v70 (n, z) → (CallP CC 31 [v66, v70] z (Gk T A71 n z))) ∧
          (∀ v62 v66 v70 v71 : Value, Fl T w_15 0 fun n z => A66 v66 (n, z) → A70 v70 (n, z) → A71 v71 (n, z) → (LitP CC 22 1 [(0, v71)] z (Gk T A72 n z))) ∧
          (∀ v62 v66 v70 v71 v72 : Value, Fl T w_15 1 fun n z => n = 0 → L [] z → A62 v62 (n, z) → A66 v66 (n, z) → A70 v70 (n, z) → A71 v71 (n, z) → A72 v72 (n, z) → AppendP CC #[22, 22] 22 [v62, v72] z fun x y => Gl T L A73 n z [x] x y) ∧
          (∀ v62 v66 v70 v71 v72 v73 : Value, Fl T w_15 1 fun n z => (Is (nilV x27))) ∧
          (∀ v62 v66 v70 v71 v72 v73 : Value, Fl T w_15 1 fun n z => (Is (fieldAddrV (τ 215) 0 (gd (nilV x27))))) ∧
          (∀ v62 v66 v70 v71 v72 v73 : Value, Fl T w_15 1 fun n z => (Is (fieldAddrV (τ 213) 1 (gd (fieldAddrV (τ 215) 0 (gd (nilV x27))))))) ∧
          (∀ v62 v66 v70 v71 v72 v73 : Value, Fl T w_15 1 fun n z => (LoadP CC 23 (gd (fieldAddrV (τ 213) 1 (gd (fieldAddrV (τ 215) 0 (gd (nilV x27)))))) z (Gk T A78 n z))) ∧
          (∀ v62 v66 v70 v71 v72 v73 v78 : Value, Fl T w_15 1 fun n z => (Is (fieldAddrV (τ 25) 3 x1))) ∧
          (∀ v62 v66 v70 v71 v72 v73 v78 : Value, Fl T w_15 1 fun n z => (LoadP CC 23 (gd (fieldAddrV (τ 25) 3 x1)) z (Gk T A80 n z))) ∧
          (∀ v62 v66 v70 v71 v72 v73 v78 v80 : Value, Fl T w_15 1 fun n z => A80 v80 (n, z) → (Is (indexAddrV (τ 23) v80 y52))) ∧
          (∀ v62 v66 v70 v71 v72 v73 v78 v80 : Value, Fl T w_15 1 fun n z => A80 v80 (n, z) → (LoadP CC 30 (gd (indexAddrV (τ 23) v80 y52)) z (Gk T A83 n z))) ∧
          (∀ v62 v66 v70 v71 v72 v73 v78 v80 v83 : Value, Fl T w_15 1 fun n z => A62 v62 (n, z) → A66 v66 (n, z) → A70 v70 (n, z) → A71 v71 (n, z) → A72 v72 (n, z) → A73 v73 (n, z) → A80 v80 (n, z) → A83 v83 (n, z) → (CallP CC 87 [v83] z (Gk T A84 n z))) ∧
          (∀ v62 v66 v70 v71 v72 v73 v78 v80 v83 v84 : Value, Fl T w_15 1 fun n z => A62 v62 (n, z) → A66 v66 (n, z) → A70 v70 (n, z) → A71 v71 (n, z) → A72 v72 (n, z) → A73 v73 (n, z) → A80 v80 (n, z) → A83 v83 (n, z) → A84 v84 (n, z) → (LitP CC 23 1 [(0, v84)] z (Gk T A85 n z))) ∧
          (∀ v62 v66 v70 v71 v72 v73 v78 v80 v83 v84 v85 : Value, Fl T w_15 2 fun n z => n = 1 → L [v73] z → blkOf v72 ≠ blkOf v85 → A62 v62 (n, z) → A66 v66 (n, z) → A70 v70 (n, z) → A71 v71 (n, z) → A72 v72 (n, z) → A73 v73 (n, z) → A78 v78 (n, z) → A80 v80 (n, z) → A83 v83 (n, z) → A84 v84 (n, z) → A85 v85 (n, z) → AppendP CC #[23, 23] 23 [v78, v85] z fun x y => Gl T L A86 n z [v73, x] x y) ∧
          (∀ v62 v66 v70 v71 v72 v73 v78 v80 v83 v84 v85 v86 : Value, Fl T w_15 2 fun n z => (Is (nilV x27))) ∧
          (∀ v62 v66 v70 v71 v72 v73 v78 v80 v83 v84 v85 v86 : Value, Fl T w_15 2 fun n z => (Is (fieldAddrV (τ 215) 0 (gd (nilV x27))))) ∧
          (∀ v62 v66 v70 v71 v72 v73 v78 v80 v83 v84 v85 v86 : Value, Fl T w_15 2 fun n z => (Is (fieldAddrV (τ 213) 2 (gd (fieldAddrV (τ 215) 0 (gd (nilV x27))))))) ∧
          (∀ v62 v66 v70 v71 v72 v73 v78 v80 v83 v84 v85 v86 : Value, Fl T w_15 2 fun n z => (LoadP CC 67 (gd (fieldAddrV (τ 213) 2 (gd (fieldAddrV (τ 215) 0 (gd (nilV x27)))))) z (Gk T A91 n z))) ∧
          (∀ v62 v66 v70 v71 v72 v73 v78 v80 v83 v84 v85 v86 v91 : Value, Fl T w_15 2 fun n z => (Is (binV (.int .i64) .add v16 y52))) ∧
          (∀ v62 v66 v70 v71 v72 v73 v78 v80 v83 v84 v85 v86 v91 : Value, Fl T w_15 2 fun n z => (LitP CC 67 1 [(0, (gd (binV (.int .i64) .add v16 y52)))] z (Gk T A95 n z))) ∧
          (∀ v62 v66 v70 v71 v72 v73 v78 v80 v83 v84 v85 v86 v91 v95 : Value, Fl T w_15 3 fun n z => n = 2 → L [v73, v86] z → blkOf v72 ≠ blkOf v85 → blkOf v72 ≠ blkOf v95 → blkOf v85 ≠ blkOf v95 → A62 v62 (n, z) → A66 v66 (n, z) → A70 v70 (n, z) → A71 v71 (n, z) → A72 v72 (n, z) → A73 v73 (n, z) → A78 v78 (n, z) → A80 v80 (n, z) → A83 v83 (n, z) → A84 v84 (n, z) → A85 v85 (n, z) → A86 v86 (n, z) → A91 v91 (n, z) → A95 v95 (n, z) → AppendP CC #[67, 67] 67 [v91, v95] z fun x y => Gl T L A96 n z [v73, v86, x] x y) ∧
          (∀ v62 v66 v70 v71 v72 v73 v78 v80 v83 v84 v85 v86 v91 v95 v96 : Value, Fl T w_15 3 fun n z => blkOf v72 ≠ blkOf v85 → blkOf v72 ≠ blkOf v95 → blkOf v85 ≠ blkOf v95 → A62 v62 (n, z) → A66 v66 (n, z) → A70 v70 (n, z) → A71 v71 (n, z) → A72 v72 (n, z) → A73 v73 (n, z) → A78 v78 (n, z) → A80 v80 (n, z) → A83 v83 (n, z) → A84 v84 (n, z) → A85 v85 (n, z) → A86 v86 (n, z) → A91 v91 (n, z) → A95 v95 (n, z) → A96 v96 (n, z) → (Is (nilV x27))) ∧
          (∀ v62 v66 v70 v71 v72 v73 v78 v80 v83 v84 v85 v86 v91 v95 v96 : Value, Fl T w_15 3 fun n z => blkOf v72 ≠ blkOf v85 → blkOf v72 ≠ blkOf v95 → blkOf v85 ≠ blkOf v95 → A62 v62 (n, z) → A66 v66 (n, z) → A70 v70 (n, z) → A71 v71 (n, z) → A72 v72 (n, z) → A73 v73 (n, z) → A78 v78 (n, z) → A80 v80 (n, z) → A83 v83 (n, z) → A84 v84 (n, z) → A85 v85 (n, z) → A86 v86 (n, z) → A91 v91 (n, z) → A95 v95 (n, z) → A96 v96 (n, z) → (Is (fieldAddrV (τ 215) 0 (gd (nilV x27))))) ∧
          (∀ v62 v66 v70 v71 v72 v73 v78 v80 v83 v84 v85 v86 v91 v95 v96 : Value, Fl T w_15 3 fun n z => blkOf v72 ≠ blkOf v85 → blkOf v72 ≠ blkOf v95 → blkOf v85 ≠ blkOf v95 → A62 v62 (n, z) → A66 v66 (n, z) → A70 v70 (n, z) → A71 v71 (n, z) → A72 v72 (n, z) → A73 v73 (n, z) → A78 v78 (n, z) → A80 v80 (n, z) → A83 v83 (n, z) → A84 v84 (n, z) → A85 v85 (n, z) → A86 v86 (n, z) → A91 v91 (n, z) → A95 v95 (n, z) → A96 v96 (n, z) → (Is (fieldAddrV (τ 213) 0 (gd (fieldAddrV (τ 215) 0 (gd (nilV x27))))))) ∧
          (∀ v62 v66 v70 v71 v72 v73 v78 v80 v83 v84 v85 v86 v91 v95 v96 : Value, Fl T w_15 4 fun n z => n = 3 → L [v73, v86, v96] z → blkOf v72 ≠ blkOf v85 → blkOf v72 ≠ blkOf v95 → blkOf v85 ≠ blkOf v95 → A62 v62 (n, z) → A66 v66 (n, z) → A70 v70 (n, z) → A71 v71 (n, z) → A72 v72 (n, z) → A73 v73 (n, z) → A78 v78 (n, z) → A80 v80 (n, z) → A83 v83 (n, z) → A84 v84 (n, z) → A85 v85 (n, z) → A86 v86 (n, z) → A91 v91 (n, z) → A95 v95 (n, z) → A96 v96 (n, z) → StoreP CC 22 (gd (fieldAddrV (τ 213) 0 (gd (fieldAddrV (τ 215) 0 (gd (nilV x27)))))) v73 z fun y => Gl T L As45 n z [v73, v86, v96, (gd (fieldAddrV (τ 213) 0 (gd (fieldAddrV (τ 215) 0 (gd (nilV x27))))))] undef y) ∧
          (∀ v62 v66 v70 v71 v72 v73 v78 v80 v83 v84 v85 v86 v91 v95 v96 vs45 : Value, Fl T w_15 4 fun n z => blkOf v72 ≠ blkOf v85 → blkOf v72 ≠ blkOf v95 → blkOf v85 ≠ blkOf v95 → A62 v62 (n, z) → A66 v66 (n, z) → A70 v70 (n, z) → A71 v71 (n, z) → A72 v72 (n, z) → A73 v73 (n, z) → A78 v78 (n, z) → A80 v80 (n, z) → A83 v83 (n, z) → A84 v84 (n, z) → A85 v85 (n, z) → A86 v86 (n, z) → A91 v91 (n, z) → A95 v95 (n, z) → A96 v96 (n, z) → As45 vs45 (n, z) → (Is (nilV x27))) ∧
          (∀ v62 v66 v70 v71 v72 v73 v78 v80 v83 v84 v85 v86 v91 v95 v96 vs45 : Value, Fl T w_15 4 fun n z => blkOf v72 ≠ blkOf v85 → blkOf v72 ≠ blkOf v95 → blkOf v85 ≠ blkOf v95 → A62 v62 (n, z) → A66 v66 (n, z) → A70 v70 (n, z) → A71 v71 (n, z) → A72 v72 (n, z) → A73 v73 (n, z) → A78 v78 (n, z) → A80 v80 (n, z) → A83 v83 (n, z) → A84 v84 (n, z) → A85 v85 (n, z) → A86 v86 (n, z) → A91 v91 (n, z) → A95 v95 (n, z) → A96 v96 (n, z) → As45 vs45 (n, z) → (Is (fieldAddrV (τ 215) 0 (gd (nilV x27))))) ∧
          (∀ v62 v66 v70 v71 v72 v73 v78 v80 v83 v84 v85 v86 v91 v95 v96 vs45 : Value, Fl T w_15 4 fun n z => blkOf v72 ≠ blkOf v85 → blkOf v72 ≠ blkOf v95 → blkOf v85 ≠ blkOf v95 → A62 v62 (n, z) → A66 v66 (n, z) → A70 v70 (n, z) → A71 v71 (n, z) → A72 v72 (n, z) → A73 v73 (n, z) → A78 v78 (n, z) → A80 v80 (n, z) → A83 v83 (n, z) → A84 v84 (n, z) → A85 v85 (n, z) → A86 v86 (n, z) → A91 v91 (n, z) → A95 v95 (n, z) → A96 v96 (n, z) → As45 vs45 (n, z) → (Is (fieldAddrV (τ 213) 1 (gd (fieldAddrV (τ 215) 0 (gd (nilV x27))))))) ∧
          (∀ v62 v66 v70 v71 v72 v73 v78 v80 v83 v84 v85 v86 v91 v95 v96 vs45 : Value, Fl T w_15 5 fun n z => n = 4 → L [v73, v86, v96, (gd (fieldAddrV (τ 213) 0 (gd (fieldAddrV (τ 215) 0 (gd (nilV x27))))))] z → blkOf v72 ≠ blkOf v85 → blkOf v72 ≠ blkOf v95 → blkOf v85 ≠ blkOf v95 → A62 v62 (n, z) → A66 v66 (n, z) → A70 v70 (n, z) → A71 v71 (n, z) → A72 v72 (n, z) → A73 v73 (n, z) → A78 v78 (n, z) → A80 v80 (n, z) → A83 v83 (n, z) → A84 v84 (n, z) → A85 v85 (n, z) → A86 v86 (n, z) → A91 v91 (n, z) → A95 v95 (n, z) → A96 v96 (n, z) → As45 vs45 (n, z) → StoreP CC 23 (gd (fieldAddrV (τ 213) 1 (gd (fieldAddrV (τ 215) 0 (gd (nilV x27)))))) v86 z fun y => Gl T L As49 n z [v73, v86, v96, (gd (fieldAddrV (τ 213) 0 (gd (fieldAddrV (τ 215) 0 (gd (nilV x27)))))), (gd (fieldAddrV (τ 213) 1 (gd (fieldAddrV (τ 215) 0 (gd (nilV x27))))))] undef y) ∧
          (∀ v62 v66 v70 v71 v72 v73 v78 v80 v83 v84 v85 v86 v91 v95 v96 vs45 vs49 : Value, Fl T w_15 5 fun n z => blkOf v72 ≠ blkOf v85 → blkOf v72 ≠ blkOf v95 → blkOf v85 ≠ blkOf v95 → A62 v62 (n, z) → A66 v66 (n, z) → A70 v70 (n, z) → A71 v71 (n, z) → A72 v72 (n, z) → A73 v73 (n, z) → A78 v78 (n, z) → A80 v80 (n, z) → A83 v83 (n, z) → A84 v84 (n, z) → A85 v85 (n, z) → A86 v86 (n, z) → A91 v91 (n, z) → A95 v95 (n, z) → A96 v96 (n, z) → As45 vs45 (n, z) → As49 vs49 (n, z) → (Is (nilV x27))) ∧
          (∀ v62 v66 v70 v71 v72 v73 v78 v80 v83 v84 v85 v86 v91 v95 v96 vs45 vs49 : Value, Fl T w_15 5 fun n z => blkOf v72 ≠ blkOf v85 → blkOf v72 ≠ blkOf v95 → blkOf v85 ≠ blkOf v95 → A62 v62 (n, z) → A66 v66 (n, z) → A70 v70 (n, z) → A71 v71 (n, z) → A72 v72 (n, z) → A73 v73 (n, z) → A78 v78 (n, z) → A80 v80 (n, z) → A83 v83 (n, z) → A84 v84 (n, z) → A85 v85 (n, z) → A86 v86 (n, z) → A91 v91 (n, z) → A95 v95 (n, z) → A96 v96 (n, z) → As45 vs45 (n, z) → As49 vs49 (n, z) → (Is (fieldAddrV (τ 215) 0 (gd (nilV x27))))) ∧
          (∀ v62 v66 v70 v71 v72 v73 v78 v80 v83 v84 v85 v86 v91 v95 v96 vs45 vs49 : Value, Fl T w_15 5 fun n z => blkOf v72 ≠ blkOf v85 → blkOf v72 ≠ blkOf v95 → blkOf v85 ≠ blkOf v95 → A62 v62 (n, z) → A66 v66 (n, z) → A70 v70 (n, z) → A71 v71 (n, z) → A72 v72 (n, z) → A73 v73 (n, z) → A78 v78 (n, z) → A80 v80 (n, z) → A83 v83 (n, z) → A84 v84 (n, z) → A85 v85 (n, z) → A86 v86 (n, z) → A91 v91 (n, z) → A95 v95 (n, z) → A96 v96 (n, z) → As45 vs45 (n, z) → As49 vs49 (n, z) → (Is (fieldAddrV (τ 213) 2 (gd (fieldAddrV (τ 215) 0 (gd (nilV x27))))))) ∧
          (∀ v62 v66 v70 v71 v72 v73 v78 v80 v83 v84 v85 v86 v91 v95 v96 vs45 vs49 : Value, Fl T w_15 6 fun n z => n = 5 → L [v73, v86, v96, (gd (fieldAddrV (τ 213) 0 (gd (fieldAddrV (τ 215) 0 (gd (nilV x27)))))), (gd (fieldAddrV (τ 213) 1 (gd (fieldAddrV (τ 215) 0 (gd (nilV x27))))))] z → blkOf v72 ≠ blkOf v85 → blkOf v72 ≠ blkOf v95 → blkOf v85 ≠ blkOf v95 → A62 v62 (n, z) → A66 v66 (n, z) → A70 v70 (n, z) → A71 v71 (n, z) → A72 v72 (n, z) → A73 v73 (n, z) → A78 v78 (n, z) → A80 v80 (n, z) → A83 v83 (n, z) → A84 v84 (n, z) → A85 v85 (n, z) → A86 v86 (n, z) → A91 v91 (n, z) → A95 v95 (n, z) → A96 v96 (n, z) → As45 vs45 (n, z) → As49 vs49 (n, z) → StoreP CC 67 (gd (fieldAddrV (τ 213) 2 (gd (fieldAddrV (τ 215) 0 (gd (nilV x27)))))) v96 z fun y => Gl T L As53 n z [v73, v86, v96, (gd (fieldAddrV (τ 213) 0 (gd (fieldAddrV (τ 215) 0 (gd (nilV x27)))))), (gd (fieldAddrV (τ 213) 1 (gd (fieldAddrV (τ 215) 0 (gd (nilV x27)))))), (gd (fieldAddrV (τ 213) 2 (gd (fieldAddrV (τ 215) 0 (gd (nilV x27))))))] undef y) ∧
          ∀ v62 v66 v70 v71 v72 v73 v78 v80 v83 v84 v85 v86 v91 v95 v96 vs45 vs49 vs53 : Value, ∀ (h_3 : Nat → Value) (w_16 : World), T (0, w_15) (6, w_16) → blkOf v72 ≠ blkOf v85 → blkOf v72 ≠ blkOf v95 → blkOf v85 ≠ blkOf v95 → A62 v62 (6, w_16) → A66 v66 (6, w_16) → A70 v70 (6, w_16) → A71 v71 (6, w_16) → A72 v72 (6, w_16) → A73 v73 (6, w_16) → A78 v78 (6, w_16) → A80 v80 (6, w_16) → A83 v83 (6, w_16) → A84 v84 (6, w_16) → A85 v85 (6, w_16) → A86 v86 (6, w_16) → A91 v91 (6, w_16) → A95 v95 (6, w_16) → A96 v96 (6, w_16) → As45 vs45 (6, w_16) → As49 vs49 (6, w_16) → As53 vs53 (6, w_16) → L [v73, v86, v96, (gd (fieldAddrV (τ 213) 0 (gd (fieldAddrV (τ 215) 0 (gd (nilV x27)))))), (gd (fieldAddrV (τ 213) 1 (gd (fieldAddrV (τ 215) 0 (gd (nilV x27)))))), (gd (fieldAddrV (τ 213) 2 (gd (fieldAddrV (τ 215) 0 (gd (nilV x27))))))] w_16 → 
          ∃ A107 A110 A112 A115 A116 : Value → World → Prop,
          (Fw Grow w_16 fun z => (Is (fieldAddrV (τ 25) 3 x1))) ∧
          (Fw Grow w_16 fun z => (LoadP CC 23 (gd (fieldAddrV (τ 25) 3 x1)) z (Gw Grow A107 z))) ∧
          (∀ v107 : Value, Fw Grow w_16 fun z => A107 v107 z → (Is (indexAddrV (τ 23) v107 y52))) ∧
          (∀ v107 : Value, Fw Grow w_16 fun z => A107 v107 z → (LoadP CC 30 (gd (indexAddrV (τ 23) v107 y52)) z (Gw Grow A110 z))) ∧
          (∀ v107 v110 : Value, Fw Grow w_16 fun z => (Is (fieldAddrV (τ 25) 3 x1))) ∧
          (∀ v107 v110 : Value, Fw Grow w_16 fun z => (LoadP CC 23 (gd (fieldAddrV (τ 25) 3 x1)) z (Gw Grow A112 z))) ∧
          (∀ v107 v110 v112 : Value, Fw Grow w_16 fun z => A112 v112 z → (Is (indexAddrV (τ 23) v112 y10))) ∧
          (∀ v107 v110 v112 : Value, Fw Grow w_16 fun z => A112 v112 z → (LoadP CC 30 (gd (indexAddrV (τ 23) v112 y10)) z (Gw Grow A115 z))) ∧
          (∀ v107 v110 v112 v115 : Value, Fw Grow w_16 fun z => A107 v107 z → A110 v110 z → A112 v112 z → A115 v115 z → (CallP CC 33 [v110, v115] z (Gw Grow A116 z))) ∧
          (∀ v107 v110 v112 v115 v116 : Value, Fw Grow w_16 fun z => A107 v107 z → A110 v110 z → A112 v112 z → A115 v115 z → A116 v116 z → (Is (binV (.int .i64) .lss v116 (.int .i64 0)))) ∧
          ∀ v107 v110 v112 v115 v116 : Value, ∀ (h_4 : Nat → Value) (w_17 : World), Grow w_16 w_17 → A107 v107 w_17 → A110 v110 w_17 → A112 v112 w_17 → A115 v115 w_17 → A116 v116 w_17 → 
          CondP (gd (binV (.int .i64) .lss v116 (.int .i64 0))) (
            ∃ x119, binV (.int .i64) .add y52 (.int .i64 1) = some x119 ∧
            I_1 y52 x119 w_17 ∧ μ_1 y52 x119 w_17 < μ_1 y10 y52 w_15) (
            ∃ x119_1, binV (.int .i64) .add y52 (.int .i64 1) = some x119_1 ∧
            I_1 y10 x119_1 w_17 ∧ μ_1 y10 x119_1 w_17 < μ_1 y10 y52 w_15)) (
          ∃ x121, binV (.int .i64) .gtr (gd (lenV (τ 22) v13)) (.int .i64 0) = some x121 ∧
          CondP x121 (
            ∃ x123, fieldAddrV (τ 25) 3 x1 = some x123 ∧
            LoadP CC 23 x123 w_15 fun x124 w_18 =>
            ∃ x126, indexAddrV (τ 23) x124 y10 = some x126 ∧
            LoadP CC 30 x126 w_18 fun x127 w_19 =>
            CallP CC 42 [x127] w_19 fun x128 w_20 =>
            ∃ x129, binV (.int .i64) .lss x128 (.int .i64 0) = some x129 ∧
            ∃ x130, pickV x121 x129 (.bool false) = some x130 ∧
            CondP x130 (
              ∃ x135, binV (.int .i64) .add v16 (gd (lenV (τ 22) v13)) = some x135 ∧
              CallP CC 201 [x27, y10, x135] w_20 fun x136 w_21 =>
              ∃ x140, binV (.int .i64) .add v16 (gd (lenV (τ 22) v13)) = some x140 ∧
              R (.tuple #[x27, x140]) w_21) (
              ∃ x140_1, binV (.int .i64) .add v16 (gd (lenV (τ 22) v13)) = some x140_1 ∧
              R (.tuple #[x27, x140_1]) w_20)) (
            ∃ x130_1, pickV x121 undef (.bool false) = some x130_1 ∧
            CondP x130_1 (
              ∃ x135_1, binV (.int .i64) .add v16 (gd (lenV (τ 22) v13)) = some x135_1 ∧
              CallP CC 201 [x27, y10, x135_1] w_15 fun x136_1 w_22 =>
              ∃ x140_2, binV (.int .i64) .add v16 (gd (lenV (τ 22) v13)) = some x140_2 ∧
              R (.tuple #[x27, x140_2]) w_22) (
              ∃ x140_3, binV (.int .i64) .add v16 (gd (lenV (τ 22) v13)) = some x140_3 ∧
              R (.tuple #[x27, x140_3]) w_15))))
theorem V162_eq (a0 : Value) (w : World) (R : Value → World → Prop) : V162 a0 w R = FnP CC { keep := fun | 5 => [32] | 12 => [10, 52] | _ => [], lin := fun | 14 => [18, 31, 41, 45, 49, 53] | 18 => [1000000] | _ => [] } Tryz.f162 [a0] w R := by kernel_rfl
theorem call162 {a0 : Value} {w : World} {R : Value → World → Prop} (h : V162 a0 w R) : CallP CC 162 [a0] w R :=
  call_of_vc CC.ok _ Tryz.func162 (V162_eq a0 w R ▸ h)
def V163 (a0 a1 : Value) (w : World) (R : Value → World → Prop) : Prop :=
  BoxP CC 206 a0 w fun x2 w_1 =>
  AllocP CC 37 w_1 fun x4 w_2 =>
  ∃ x9, fieldAddrV (τ 206) 0 x2 = some x9 ∧
  ∃ x10, fieldAddrV (τ 25) 2 x9 = some x10 ∧
  LoadP CC 22 x10 w_2 fun x11 w_3 =>
  ∃ x12, lenV (τ 22) x11 = some x12 ∧
  MakeP CC 22 x12 x12 w_3 fun x13 w_4 =>
  ∃ x14, fieldAddrV (τ 206) 0 x2 = some x14 ∧
  LoadP CC 25 x14 w_4 fun x15 w_5 =>
  CallP CC 166 [x15] w_5 fun x16 w_6 =>
  ∃ x17, lenV (τ 207) x16 = some x17 ∧
  ∃ (I : Value → World → Prop) (μ : Value → World → Nat), I (.int .i64 0) w_6 ∧
  ∀ y18 : Value, ∀ (h : Nat → Value) (w_7 : World), I y18 w_7 →
    ∃ x19, binV (.int .i64) .lss y18 x17 = some x19 ∧
    CondP x19 (
      ∃ x20, indexAddrV (τ 207) x16 y18 = some x20 ∧
      LoadP CC 210 x20 w_7 fun x21 w_8 =>
      AllocP CC 210 w_8 fun x7 w_9 =>
      StoreP CC 210 x7 x21 w_9 fun w_10 =>
      ∃ x23, lenV (τ 22) x13 = some x23 ∧
      ∃ (I_1 : Value → World → Prop) (μ_1 : Value → World → Nat), I_1 (.int .i64 0) w_10 ∧
      ∀ y24 : Value, ∀ (h_1 : Nat → Value) (w_11 : World), I_1 y24 w_11 →
        ∃ x25, binV (.int .i64) .lss y24 x23 = some x25 ∧
        CondP x25 (
          ∃ (T : Nat × World → Nat × World → Prop) (L : List Value → World → Prop), Hg T ∧ Ht T ∧ Hl L w_11 ∧
          ∃ A32 A34 A35 A38 A41 A42 A43 As18 : Value → Nat × World → Prop,
          (Fl T w_11 0 fun n z => (Is (indexAddrV (τ 22) x13 y24))) ∧
          (Fl T w_11 0 fun n z => (LoadP CC 23 (gd (indexAddrV (τ 22) x13 y24)) z (Gk T A32 n z))) ∧
          (∀ v32 : Value, Fl T w_11 0 fun n z => (Is (fieldAddrV (τ 206) 1 x2))) ∧
          (∀ v32 : Value, Fl T w_11 0 fun n z => (LoadP CC 202 (gd (fieldAddrV (τ 206) 1 x2)) z (Gk T A34 n z))) ∧
          (∀ v32 v34 : Value, Fl T w_11 0 fun n z => (LoadP CC 210 x7 z (Gk T A35 n z))) ∧
          (∀ v32 v34 v35 : Value, Fl T w_11 0 fun n z => (Is (fieldAddrV (τ 206) 0 x2))) ∧
          (∀ v32 v34 v35 : Value, Fl T w_11 0 fun n z => (Is (fieldAddrV (τ 25) 0 (gd (fieldAddrV (τ 206) 0 x2))))) ∧
          (∀ v32 v34 v35 : Value, Fl T w_11 0 fun n z => (LoadP CC 3 (gd (fieldAddrV (τ 25) 0 (gd (fieldAddrV (τ 206) 0 x2)))) z (Gk T A38 n z))) ∧
          (∀ v32 v34 v35 v38 : Value, Fl T w_11 0 fun n z => A38 v38 (n, z) → (Is (binV (.int .i64) .add v38 y24))) ∧
          (∀ v32 v34 v35 v38 : Value, Fl T w_11 0 fun n z => A34 v34 (n, z) → A35 v35 (n, z) → A38 v38 (n, z) → (CallP CC 202 [v34, v35, (gd (binV (.int .i64) .add v38 y24))] z (Gk T A41 n z))) ∧
          (∀ v32 v34 v35 v38 v41 : Value, Fl T w_11 0 fun n z => A34 v34 (n, z) → A35 v35 (n, z) → A38 v38 (n, z) → A41 v41 (n, z) → (LitP CC 23 1 [(0, v41)] z (Gk T A42 n z))) ∧
          (∀ v32 v34 v35 v38 v41 v42 : Value, Fl T w_11 1 fun n z => n = 0 → L [] z → A32 v32 (n, z) → A34 v34 (n, z) → A35 v35 (n, z) → A38 v38 (n, z) → A41 v41 (n, z) → A42 v42 (n, z) → AppendP CC #[23, 23] 23 [v32, v42] z fun x y => Gl T L A43 n z [x] x y) ∧
          (∀ v32 v34 v35 v38 v41 v42 v43 : Value, Fl T w_11 1 fun n z => A32 v32 (n, z) → A34 v34 (n, z) → A35 v35 (n, z) → A38 v38 (n, z) → A41 v41 (n, z) → A42 v42 (n, z) → A43 v43 (n, z) → (Is (indexAddrV (τ 22) x13 y24))) ∧
          (∀ v32 v34 v35 v38 v41 v42 v43 : Value, Fl T w_11 2 fun n z => n = 1 → L [v43] z → A32 v32 (n, z) → A34 v34 (n, z) → A35 v35 (n, z) → A38 v38 (n, z) → A41 v41 (n, z) → A42 v42 (n, z) → A43 v43 (n, z) → StoreP CC 23 (gd (indexAddrV (τ 22) x13 y24)) v43 z fun y => Gl T L As18 n z [v43, (gd (indexAddrV (τ 22) x13 y24))] undef y) ∧
          ∀ v32 v34 v35 v38 v41 v42 v43 vs18 : Value, ∀ (h_2 : Nat → Value) (w_12 : World), T (0, w_11) (2, w_12) → A32 v32 (2, w_12) → A34 v34 (2, w_12) → A35 v35 (2, w_12) → A38 v38 (2, w_12) → A41 v41 (2, w_12) → A42 v42 (2, w_12) → A43 v43 (2, w_12) → As18 vs18 (2, w_12) → L [v43, (gd (indexAddrV (τ 22) x13 y24))] w_12 → 
          ∃ x45, binV (.int .i64) .add y24 (.int .i64 1) = some x45 ∧
          I_1 x45 w_12 ∧ μ_1 x45 w_12 < μ_1 y24 w_11) (
          ∃ x46, binV (.int .i64) .add y18 (.int .i64 1) = some x46 ∧
          I x46 w_11 ∧ μ x46 w_11 < μ y18 w_7)) (
      LoadP CC 206 x2 w_7 fun x47 w_13 =>
      CallP CC 190 [x47] w_13 fun x48 w_14 =>
      ∃ x50, buildV (τ 37) [(0, (.int .u8 1)), (1, x48), (2, x13)] = some x50 ∧
      StoreP CC 37 x4 x50 w_14 fun w_15 =>
      ∃ ad r, x4 = .pointer (some ad) ∧ (loadVar 37 ad).run CC.P w_15 = .ok r w_15 ∧
      R r w_15)
theorem V163_eq (a0 a1 : Value) (w : World) (R : Value → World → Prop) : V163 a0 a1 w R = FnP CC { keep := fun | 3 => [18] | 6 => [24] | _ => [], lin := fun | 8 => [16, 18] | _ => [] } Tryz.f163 [a0, a1] w R := by kernel_rfl
theorem call163 {a0 a1 : Value} {w : World} {R : Value → World → Prop} (h : V163 a0 a1 w R) : CallP CC 163 [a0, a1] w R :=
  call_of_vc CC.ok _ Tryz.func163 (V163_eq a0 a1 w R ▸ h)
def V164 (a0 a1 : Value) (w : World) (R : Value → World → Prop) : Prop :=
  BoxP CC 3 a1 w fun x3 w_1 =>
  ∃ x10, some (Value.func (.func 203) #[] #[x3]) = some x10 ∧
  ∃ x11, buildV (τ 210) [(0, x10)] = some x11 ∧
  CallP CC 167 [a0, x11] w_1 fun x12 w_2 =>
  ∃ x14, nilV a0 = some x14 ∧
  ∃ x15, fieldAddrV (τ 215) 0 x14 = some x15 ∧
  ∃ x16, fieldAddrV (τ 213) 2 x15 = some x16 ∧
  LoadP CC 67 x16 w_2 fun x17 w_3 =>
  ∃ x18, lenV (τ 67) x17 = some x18 ∧
  ∃ (I : Value → World → Prop) (μ : Value → World → Nat), I (.int .i64 0) w_3 ∧
  ∀ y19 : Value, ∀ (h : Nat → Value) (w_4 : World), I y19 w_4 →
    ∃ x20, binV (.int .i64) .lss y19 x18 = some x20 ∧
    CondP x20 (
      ∃ x22, indexAddrV (τ 67) x17 y19 = some x22 ∧
      LoadP CC 3 x22 w_4 fun x23 w_5 =>
      LoadP CC 3 x3 w_5 fun x25 w_6 =>
      ∃ x26, binV (.int .i64) .neq x23 x25 = some x26 ∧
      CondP x26 (
        ∃ x59, binV (.int .i64) .add y19 (.int .i64 1) = some x59 ∧
        I x59 w_6 ∧ μ x59 w_6 < μ y19 w_4) (
        ∃ x28, nilV a0 = some x28 ∧
        ∃ x29, fieldAddrV (τ 215) 0 x28 = some x29 ∧
        ∃ x30, fieldAddrV (τ 213) 1 x29 = some x30 ∧
        LoadP CC 23 x30 w_6 fun x31 w_7 =>
        ∃ x33, indexAddrV (τ 23) x31 y19 = some x33 ∧
        LoadP CC 30 x33 w_7 fun x34 w_8 =>
        CallP CC 42 [x34] w_8 fun x35 w_9 =>
        ∃ x36, binV (.int .i64) .gtr x35 (.int .i64 0) = some x36 ∧
        CondP x36 (
          R (.bool false) w_9) (
          LoadP CC 3 x3 w_9 fun x37 w_10 =>
          ∃ (I_1 : Value → World → Prop) (μ_1 : Value → World → Nat), I_1 (.int .i64 0) w_10 ∧
          ∀ y38 : Value, ∀ (h_1 : Nat → Value) (w_11 : World), I_1 y38 w_11 →
            ∃ x39, binV (.int .i64) .lss y38 x37 = some x39 ∧
            CondP x39 (
              ∃ x42, nilV a0 = some x42 ∧
              ∃ x43, fieldAddrV (τ 215) 0 x42 = some x43 ∧
              ∃ x44, fieldAddrV (τ 213) 0 x43 = some x44 ∧
              LoadP CC 22 x44 w_11 fun x45 w_12 =>
              ∃ x47, indexAddrV (τ 22) x45 y19 = some x47 ∧
              LoadP CC 23 x47 w_12 fun x48 w_13 =>
              ∃ x50, indexAddrV (τ 23) x48 y38 = some x50 ∧
              LoadP CC 30 x50 w_13 fun x51 w_14 =>
              CallP CC 42 [x51] w_14 fun x52 w_15 =>
              ∃ x53, binV (.int .i64) .neq x52 (.int .i64 0) = some x53 ∧
              CondP x53 (
                CallP CC 201 [a0, y19, y38] w_15 fun x57 w_16 =>
                ∃ x59_1, binV (.int .i64) .add y19 (.int .i64 1) = some x59_1 ∧
                I x59_1 w_16 ∧ μ x59_1 w_16 < μ y19 w_4) (
                ∃ x58, binV (.int .i64) .add y38 (.int .i64 1) = some x58 ∧
                I_1 x58 w_15 ∧ μ_1 x58 w_15 < μ_1 y38 w_11)) (
              ∃ x59_2, binV (.int .i64) .add y19 (.int .i64 1) = some x59_2 ∧
              I x59_2 w_11 ∧ μ x59_2 w_11 < μ y19 w_4)))) (
      ∃ x61, nilV a0 = some x61 ∧
      ∃ x62, fieldAddrV (τ 215) 2 x61 = some x62 ∧
      LoadP CC 94 x62 w_4 fun x63 w_17 =>
      ∃ x64, lenV (τ 94) x63 = some x64 ∧
      ∃ (I_2 : Value → World → Prop) (μ_2 : Value → World → Nat), I_2 (.int .i64 0) w_17 ∧
      ∀ y65 : Value, ∀ (h_2 : Nat → Value) (w_18 : World), I_2 y65 w_18 →
        ∃ x66, binV (.int .i64) .lss y65 x64 = some x66 ∧
        CondP x66 (
          ∃ (T : Nat × World → Nat × World → Prop) (L : List Value → World → Prop), Hg T ∧ Ht T ∧ Hl L w_18 ∧
          ∃ A71 A74 As9 : Value → Nat × World → Prop,
          (Fl T w_18 0 fun n z => (Is (nilV a0))) ∧
          (Fl T w_18 0 fun n z => (Is (fieldAddrV (τ 215) 2 (gd (nilV a0))))) ∧
          (Fl T w_18 0 fun n z => (LoadP CC 94 (gd (fieldAddrV (τ 215) 2 (gd (nilV a0)))) z (Gk T A71 n z))) ∧
          (∀ v71 : Value, Fl T w_18 0 fun n z => (LoadP CC 3 x3 z (Gk T A74 n z))) ∧
          (∀ v71 v74 : Value, Fl T w_18 0 fun n z => A74 v74 (n, z) → (Is (binV (.int .i64) .eql y65 v74))) ∧
          (∀ v71 v74 : Value, Fl T w_18 0 fun n z => A71 v71 (n, z) → A74 v74 (n, z) → (Is (indexAddrV (τ 94) v71 y65))) ∧
          (∀ v71 v74 : Value, Fl T w_18 1 fun n z => n = 0 → L [] z → A71 v71 (n, z) → A74 v74 (n, z) → StoreP CC 4 (gd (indexAddrV (τ 94) v71 y65)) (gd (binV (.int .i64) .eql y65 v74)) z fun y => Gl T L As9 n z [(gd (indexAddrV (τ 94) v71 y65))] undef y) ∧
          ∀ v71 v74 vs9 : Value, ∀ (h_3 : Nat → Value) (w_19 : World), T (0, w_18) (1, w_19) → A71 v71 (1, w_19) → A74 v74 (1, w_19) → As9 vs9 (1, w_19) → L [(gd (indexAddrV (τ 94) v71 y65))] w_19 → 
          ∃ x77, binV (.int .i64) .add y65 (.int .i64 1) = some x77 ∧
          I_2 x77 w_19 ∧ μ_2 x77 w_19 < μ_2 y65 w_18) (
          R (.bool true) w_18))
theorem V164_eq (a0 a1 : Value) (w : World) (R : Value → World → Prop) : V164 a0 a1 w R = FnP CC { keep := fun | 3 => [19] | 9 => [38] | 16 => [65] | _ => [], lin := fun | 18 => [9] | _ => [] } Tryz.f164 [a0, a1] w R := by kernel_rfl
theorem call164 {a0 a1 : Value} {w : World} {R : Value → World → Prop} (h : V164 a0 a1 w R) : CallP CC 164 [a0, a1] w R :=
  call_of_vc CC.ok _ Tryz.func164 (V164_eq a0 a1 w R ▸ h)
def V165 (a0 a1 : Value) (w : World) (R : Value → World → Prop) : Prop :=
  BoxP CC 206 a0 w fun x2 w_1 =>
  AllocP CC 37 w_1 fun x4 w_2 =>
  ∃ x8, some (Value.func (.func 204) #[] #[x2]) = some x8 ∧
  ∃ x9, buildV (τ 210) [(0, x8)] = some x9 ∧
  AllocP CC 210 w_2 fun x5 w_3 =>
  StoreP CC 210 x5 x9 w_3 fun w_4 =>
  ∃ x10, fieldAddrV (τ 206) 0 x2 = some x10 ∧
  ∃ x11, fieldAddrV (τ 25) 2 x10 = some x11 ∧
  LoadP CC 22 x11 w_4 fun x12 w_5 =>
  ∃ x13, lenV (τ 22) x12 = some x13 ∧
  MakeP CC 23 x13 x13 w_5 fun x14 w_6 =>
  ∃ x16, lenV (τ 23) x14 = some x16 ∧
  ∃ (I : Value → World → Prop) (μ : Value → World → Nat), I (.int .i64 0) w_6 ∧
  ∀ y17 : Value, ∀ (h : Nat → Value) (w_7 : World), I y17 w_7 →
    ∃ x18, binV (.int .i64) .lss y17 x16 = some x18 ∧
    CondP x18 (
      ∃ x22, fieldAddrV (τ 206) 1 x2 = some x22 ∧
      LoadP CC 202 x22 w_7 fun x23 w_8 =>
      LoadP CC 210 x5 w_8 fun x24 w_9 =>
      ∃ x25, fieldAddrV (τ 206) 0 x2 = some x25 ∧
      ∃ x26, fieldAddrV (τ 25) 0 x25 = some x26 ∧
      LoadP CC 3 x26 w_9 fun x27 w_10 =>
      ∃ x29, binV (.int .i64) .add x27 y17 = some x29 ∧
      CallP CC 202 [x23, x24, x29] w_10 fun x30 w_11 =>
      ∃ x31, indexAddrV (τ 23) x14 y17 = some x31 ∧
      StoreP CC 30 x31 x30 w_11 fun w_12 =>
      ∃ x32, binV (.int .i64) .add y17 (.int .i64 1) = some x32 ∧
      I x32 w_12 ∧ μ x32 w_12 < μ y17 w_7) (
      ∃ x34, buildV (τ 37) [(0, (.int .u8 2)), (4, x14)] = some x34 ∧
      StoreP CC 37 x4 x34 w_7 fun w_13 =>
      ∃ ad r, x4 = .pointer (some ad) ∧ (loadVar 37 ad).run CC.P w_13 = .ok r w_13 ∧
      R r w_13)
theorem V165_eq (a0 a1 : Value) (w : World) (R : Value → World → Prop) : V165 a0 a1 w R = FnP CC { keep := fun | 4 => [17] | _ => [], lin := fun _ => [] } Tryz.f165 [a0, a1] w R := by kernel_rfl
theorem call165 {a0 a1 : Value} {w : World} {R : Value → World → Prop} (h : V165 a0 a1 w R) : CallP CC 165 [a0, a1] w R :=
  call_of_vc CC.ok _ Tryz.func165 (V165_eq a0 a1 w R ▸ h)
def V166 (a0 : Value) (w : World) (R : Value → World → Prop) : Prop :=
  BoxP CC 25 a0 w fun x1 w_1 =>
  ∃ x7, fieldAddrV (τ 25) 1 x1 = some x7 ∧
  LoadP CC 22 x7 w_1 fun x8 w_2 =>
  ∃ x9, lenV (τ 22) x8 = some x9 ∧
  ∃ (I : Value → Value → World → Prop) (μ : Value → Value → World → Nat), I (.slice none 0 0) (.int .i64 0) w_2 ∧
  ∀ y2 : Value, ∀ y10 : Value, ∀ (h : Nat → Value) (w_3 : World), I y2 y10 w_3 →
    ∃ x11, binV (.int .i64) .lss y10 x9 = some x11 ∧
    CondP x11 (
      ∃ x12, indexAddrV (τ 22) x8 y10 = some x12 ∧
      LoadP CC 23 x12 w_3 fun x13 w_4 =>
      ∃ x15, fieldAddrV (τ 25) 0 x1 = some x15 ∧
      LoadP CC 3 x15 w_4 fun x16 w_5 =>
      CallP CC 31 [x13, x16] w_5 fun x17 w_6 =>
      AllocP CC 23 w_6 fun x5 w_7 =>
      StoreP CC 23 x5 x17 w_7 fun w_8 =>
      ∃ x19, some (Value.func (.func 205) #[] #[x5]) = some x19 ∧
      ∃ x20, buildV (τ 210) [(0, x19)] = some x20 ∧
      LitP CC 207 1 [(0, x20)] w_8 fun x21 w_9 =>
      AppendP CC #[207, 207] 207 [y2, x21] w_9 fun x22 w_10 =>
      ∃ x23, binV (.int .i64) .add y10 (.int .i64 1) = some x23 ∧
      I x22 x23 w_10 ∧ μ x22 x23 w_10 < μ y2 y10 w_3) (
      ∃ x24, fieldAddrV (τ 25) 0 x1 = some x24 ∧
      LoadP CC 3 x24 w_3 fun x25 w_11 =>
      ∃ (I_1 : Value → Value → World → Prop) (μ_1 : Value → Value → World → Nat), I_1 y2 (.int .i64 0) w_11 ∧
      ∀ y2_1 : Value, ∀ y26 : Value, ∀ (h_1 : Nat → Value) (w_12 : World), I_1 y2_1 y26 w_12 →
        ∃ x27, binV (.int .i64) .lss y26 x25 = some x27 ∧
        CondP x27 (
          AllocP CC 3 w_12 fun x6 w_13 =>
          StoreP CC 3 x6 y26 w_13 fun w_14 =>
          ∃ x30, some (Value.func (.func 206) #[] #[x6]) = some x30 ∧
          ∃ x31, buildV (τ 210) [(0, x30)] = some x31 ∧
          LitP CC 207 1 [(0, x31)] w_14 fun x32 w_15 =>
          AppendP CC #[207, 207] 207 [y2_1, x32] w_15 fun x33 w_16 =>
          ∃ x34, binV (.int .i64) .add y26 (.int .i64 1) = some x34 ∧
          I_1 x33 x34 w_16 ∧ μ_1 x33 x34 w_16 < μ_1 y2_1 y26 w_12) (
          R y2_1 w_12))
theorem V166_eq (a0 : Value) (w : World) (R : Value → World → Prop) : V166 a0 w R = FnP CC { keep := fun | 2 => [2, 10] | 8 => [2, 26] | _ => [], lin := fun _ => [] } Tryz.f166 [a0] w R := by kernel_rfl
theorem call166 {a0 : Value} {w : World} {R : Value → World → Prop} (h : V166 a0 w R) : CallP CC 166 [a0] w R :=
  call_of_vc CC.ok _ Tryz.func166 (V166_eq a0 w R ▸ h)
def V167 (a0 a1 : Value) (w : World) (R : Value → World → Prop) : Prop :=
  BoxP CC 202 a0 w fun x2 w_1 =>
  BoxP CC 210 a1 w_1 fun x3 w_2 =>
  ∃ (I : Value → Value → World → Prop) (μ : Value → Value → World → Nat), I (.int .i64 0) (.bool false) w_2 ∧
  ∀ y4 : Value, ∀ y5 : Value, ∀ (h : Nat → Value) (w_3 : World), I y4 y5 w_3 →
    AllocP CC 3 w_3 fun x6 w_4 =>
    StoreP CC 3 x6 (.int .i64 (-1)) w_4 fun w_5 =>
    LoadP CC 202 x2 w_5 fun x12 w_6 =>
    LoadP CC 210 x3 w_6 fun x13 w_7 =>
    CallP CC 207 [x12, x13] w_7 fun x14 w_8 =>
    ∃ f cap, x14 = .func (.func f) #[] cap ∧ hasB f = true ∧ ∃ Stay N Args, Iter CC f cap.toList w_8 Stay N Args ∧ (∀ k w' vs, Args k w' vs → vs.length = 2) ∧ ∃ (I_1 : Nat → World → Prop) (J : Jmp → World → Prop),
    (∀ w', Vc.Sys w_8.heap.size w_8 w' → I_1 0 w') ∧ (∀ k w', I_1 k w' → Stay k w') ∧
    (∀ k, k < N → ∀ x15 : Value, ∀ x16 : Value, ∀ w_9, I_1 k w_9 → Args k w_9 [x15, x16] →
      AllocP CC 30 w_9 fun x8 w_13 =>
      StoreP CC 30 x8 x16 w_13 fun w_14 =>
      ∀ w_10, Vc.Sys w_8.heap.size w_14 w_10 →
      LoadP CC 30 x8 w_10 fun x17 w_15 =>
      CallP CC 42 [x17] w_15 fun x18 w_16 =>
      ∃ x19, binV (.int .i64) .lss x18 (.int .i64 0) = some x19 ∧
      CondP x19 (
        StoreP CC 3 x6 x15 w_16 fun w_17 =>
        ∀ w', Vc.Sys w_8.heap.size w_17 w' → J (.exit 2) w') (
        ∀ w', Vc.Sys w_8.heap.size w_16 w' → I_1 (k + 1) w')) ∧
    (∀ w_11, I_1 N w_11 →
      LoadP CC 3 x6 w_11 fun x21 w_18 =>
      ∃ x22, binV (.int .i64) .lss x21 (.int .i64 0) = some x22 ∧
      CondP x22 (
        LoadP CC 202 x2 w_18 fun x33 w_19 =>
        LoadP CC 210 x3 w_19 fun x34 w_20 =>
        CallP CC 207 [x33, x34] w_20 fun x35 w_21 =>
        ∃ f_1 cap_1, x35 = .func (.func f_1) #[] cap_1 ∧ hasB f_1 = true ∧ ∃ Stay_1 N_1 Args_1, Iter CC f_1 cap_1.toList w_21 Stay_1 N_1 Args_1 ∧ (∀ k w' vs, Args_1 k w' vs → vs.length = 2) ∧ ∃ (I_2 : Nat → World → Prop) (J_1 : Jmp → World → Prop),
        (∀ w', Vc.Sys w_21.heap.size w_21 w' → I_2 0 w') ∧ (∀ k w', I_2 k w' → Stay_1 k w') ∧
        (∀ k_1, k_1 < N_1 → ∀ x36 : Value, ∀ x37 : Value, ∀ w_22, I_2 k_1 w_22 → Args_1 k_1 w_22 [x36, x37] →
          AllocP CC 30 w_22 fun x11 w_26 =>
          StoreP CC 30 x11 x37 w_26 fun w_27 =>
          ∀ w_23, Vc.Sys w_21.heap.size w_27 w_23 →
          ∃ (T : Nat × World → Nat × World → Prop) (L : List Value → World → Prop), Hg T ∧ Ht T ∧ Hl L w_23 ∧
          ∃ A38 A41 A43 A44 As9 : Value → Nat × World → Prop,
          (Fl T w_23 0 fun n z => (LoadP CC 202 x2 z (Gk T A38 n z))) ∧
          (∀ v38 : Value, Fl T w_23 0 fun n z => A38 v38 (n, z) → (Is (nilV v38))) ∧
          (∀ v38 : Value, Fl T w_23 0 fun n z => A38 v38 (n, z) → (Is (fieldAddrV (τ 215) 2 (gd (nilV v38))))) ∧
          (∀ v38 : Value, Fl T w_23 0 fun n z => A38 v38 (n, z) → (LoadP CC 94 (gd (fieldAddrV (τ 215) 2 (gd (nilV v38)))) z (Gk T A41 n z))) ∧
          (∀ v38 v41 : Value, Fl T w_23 0 fun n z => (LoadP CC 30 x11 z (Gk T A43 n z))) ∧
          (∀ v38 v41 v43 : Value, Fl T w_23 0 fun n z => A43 v43 (n, z) → (CallP CC 42 [v43] z (Gk T A44 n z))) ∧
          (∀ v38 v41 v43 v44 : Value, Fl T w_23 0 fun n z => A43 v43 (n, z) → A44 v44 (n, z) → (Is (binV (.int .i64) .neq v44 (.int .i64 0)))) ∧
          (∀ v38 v41 v43 v44 : Value, Fl T w_23 0 fun n z => A38 v38 (n, z) → A41 v41 (n, z) → A43 v43 (n, z) → A44 v44 (n, z) → (Is (indexAddrV (τ 94) v41 x36))) ∧
          (∀ v38 v41 v43 v44 : Value, Fl T w_23 1 fun n z => n = 0 → L [] z → A38 v38 (n, z) → A41 v41 (n, z) → A43 v43 (n, z) → A44 v44 (n, z) → StoreP CC 4 (gd (indexAddrV (τ 94) v41 x36)) (gd (binV (.int .i64) .neq v44 (.int .i64 0))) z fun y => Gl T L As9 n z [(gd (indexAddrV (τ 94) v41 x36))] undef y) ∧
          ∀ v38 v41 v43 v44 vs9 : Value, ∀ (h_1 : Nat → Value) (w_28 : World), T (0, w_23) (1, w_28) → A38 v38 (1, w_28) → A41 v41 (1, w_28) → A43 v43 (1, w_28) → A44 v44 (1, w_28) → As9 vs9 (1, w_28) → L [(gd (indexAddrV (τ 94) v41 x36))] w_28 → 
          ∀ w', Vc.Sys w_21.heap.size w_28 w' → I_2 (k_1 + 1) w') ∧
        (∀ w_24, I_2 N_1 w_24 →
          ∀ w_29, Vc.Sys w.heap.size w_24 w_29 →
          R (.tuple #[(.int .i64 0), (.bool true)]) w_29) ∧
        (∀ j w_25, J_1 j w_25 → match j with
          | .ret =>
            ∀ w_30, Vc.Sys w.heap.size w_25 w_30 →
            R (.tuple #[y4, y5]) w_30
          | .exit i =>
            if i = 4 then (
              ∀ w_31, Vc.Sys w.heap.size w_25 w_31 →
              R (.tuple #[(.int .i64 0), (.bool true)]) w_31) else
            False)) (
        LoadP CC 202 x2 w_18 fun x23 w_32 =>
        LoadP CC 3 x6 w_32 fun x24 w_33 =>
        CallP CC 208 [x23, x24] w_33 fun x25 w_34 =>
        ∃ x27, binV (.int .i64) .lss x25 (.int .i64 0) = some x27 ∧
        CondP x27 (
          LoadP CC 3 x6 w_34 fun x28 w_35 =>
          ∀ w_36, Vc.Sys w.heap.size w_35 w_36 →
          R (.tuple #[x28, (.bool false)]) w_36) (
          LoadP CC 202 x2 w_34 fun x29 w_37 =>
          LoadP CC 3 x6 w_37 fun x31 w_38 =>
          CallP CC 201 [x29, x25, x31] w_38 fun x32 w_39 =>
          I y4 y5 w_39 ∧ μ y4 y5 w_39 < μ y4 y5 w_3))) ∧
    (∀ j w_12, J j w_12 → match j with
      | .ret =>
        ∀ w_40, Vc.Sys w.heap.size w_12 w_40 →
        R (.tuple #[y4, y5]) w_40
      | .exit i =>
        if i = 2 then (
          LoadP CC 3 x6 w_12 fun x21_1 w_41 =>
          ∃ x22_1, binV (.int .i64) .lss x21_1 (.int .i64 0) = some x22_1 ∧
          CondP x22_1 (
            LoadP CC 202 x2 w_41 fun x33_1 w_42 =>
            LoadP CC 210 x3 w_42 fun x34_1 w_43 =>
            CallP CC 207 [x33_1, x34_1] w_43 fun x35_1 w_44 =>
            ∃ f_2 cap_2, x35_1 = .func (.func f_2) #[] cap_2 ∧ hasB f_2 = true ∧ ∃ Stay_2 N_2 Args_2, Iter CC f_2 cap_2.toList w_44 Stay_2 N_2 Args_2 ∧ (∀ k w' vs, Args_2 k w' vs → vs.length = 2) ∧ ∃ (I_3 : Nat → World → Prop) (J_2 : Jmp → World → Prop),
            (∀ w', Vc.Sys w_44.heap.size w_44 w' → I_3 0 w') ∧ (∀ k w', I_3 k w' → Stay_2 k w') ∧
            (∀ k_2, k_2 < N_2 → ∀ x36_1 : Value, ∀ x37_1 : Value, ∀ w_45, I_3 k_2 w_45 → Args_2 k_2 w_45 [x36_1, x37_1] →
              AllocP CC 30 w_45 fun x11_1 w_49 =>
              StoreP CC 30 x11_1 x37_1 w_49 fun w_50 =>
              ∀ w_46, Vc.Sys w_44.heap.size w_50 w_46 →
              ∃ (T_1 : Nat × World → Nat × World → Prop) (L_1 : List Value → World → Prop), Hg T_1 ∧ Ht T_1 ∧ Hl L_1 w_46 ∧
              ∃ A38_1 A41_1 A43_1 A44_1 As9_1 : Value → Nat × World → Prop,
              (Fl T_1 w_46 0 fun n z => (LoadP CC 202 x2 z (Gk T_1 A38_1 n z))) ∧
              (∀ v38_1 : Value, Fl T_1 w_46 0 fun n z => A38_1 v38_1 (n, z) → (Is (nilV v38_1))) ∧
              (∀ v38_1 : Value, Fl T_1 w_46 0 fun n z => A38_1 v38_1 (n, z) → (Is (fieldAddrV (τ 215) 2 (gd (nilV v38_1))))) ∧
              (∀ v38_1 : Value, Fl T_1 w_46 0 fun n z => A38_1 v38_1 (n, z) → (LoadP CC 94 (gd (fieldAddrV (τ 215) 2 (gd (nilV v38_1)))) z (Gk T_1 A41_1 n z))) ∧
              (∀ v38_1 v41_1 : Value, Fl T_1 w_46 0 fun n z => (LoadP CC 30 x11_1 z (Gk T_1 A43_1 n z))) ∧
              (∀ v38_1 v41_1 v43_1 : Value, Fl T_1 w_46 0 fun n z => A43_1 v43_1 (n, z) → (CallP CC 42 [v43_1] z (Gk T_1 A44_1 n z))) ∧
              (∀ v38_1 v41_1 v43_1 v44_1 : Value, Fl T_1 w_46 0 fun n z => A43_1 v43_1 (n, z) → A44_1 v44_1 (n, z) → (Is (binV (.int .i64) .neq v44_1 (.int .i64 0)))) ∧
              (∀ v38_1 v41_1 v43_1 v44_1 : Value, Fl T_1 w_46 0 fun n z => A38_1 v38_1 (n, z) → A41_1 v41_1 (n, z) → A43_1 v43_1 (n, z) → A44_1 v44_1 (n, z) → (Is (indexAddrV (τ 94) v41_1 x36_1))) ∧
              (∀ v38_1 v41_1 v43_1 v44_1 : Value, Fl T_1 w_46 1 fun n z => n = 0 → L_1 [] z → A38_1 v38_1 (n, z) → A41_1 v41_1 (n, z) → A43_1 v43_1 (n, z) → A44_1 v44_1 (n, z) → StoreP CC 4 (gd (indexAddrV (τ 94) v41_1 x36_1)) (gd (binV (.int .i64) .neq v44_1 (.int .i64 0))) z fun y => Gl T_1 L_1 As9_1 n z [(gd (indexAddrV (τ 94) v41_1 x36_1))] undef y) ∧
              ∀ v38_1 v41_1 v43_1 v44_1 vs9_1 : Value, ∀ (h_2 : Nat → Value) (w_51 : World), T_1 (0, w_46) (1, w_51) → A38_1 v38_1 (1, w_51) → A41_1 v41_1 (1, w_51) → A43_1 v43_1 (1, w_51) → A44_1 v44_1 (1, w_51) → As9_1 vs9_1 (1, w_51) → L_1 [(gd (indexAddrV (τ 94) v41_1 x36_1))] w_51 → 
              ∀ w', Vc.Sys w_44.heap.size w_51 w' → I_3 (k_2 + 1) w') ∧
            (∀ w_47, I_3 N_2 w_47 →
              ∀ w_52, Vc.Sys w.heap.size w_47 w_52 →
              R (.tuple #[(.int .i64 0), (.bool true)]) w_52) ∧
            (∀ j w_48, J_2 j w_48 → match j with
              | .ret =>
                ∀ w_53, Vc.Sys w.heap.size w_48 w_53 →
                R (.tuple #[y4, y5]) w_53
              | .exit i =>
                if i = 4 then (
                  ∀ w_54, Vc.Sys w.heap.size w_48 w_54 →
                  R (.tuple #[(.int .i64 0), (.bool true)]) w_54) else
                False)) (
            LoadP CC 202 x2 w_41 fun x23_1 w_55 =>
            LoadP CC 3 x6 w_55 fun x24_1 w_56 =>
            CallP CC 208 [x23_1, x24_1] w_56 fun x25_1 w_57 =>
            ∃ x27_1, binV (.int .i64) .lss x25_1 (.int .i64 0) = some x27_1 ∧
            CondP x27_1 (
              LoadP CC 3 x6 w_57 fun x28_1 w_58 =>
              ∀ w_59, Vc.Sys w.heap.size w_58 w_59 →
              R (.tuple #[x28_1, (.bool false)]) w_59) (
              LoadP CC 202 x2 w_57 fun x29_1 w_60 =>
              LoadP CC 3 x6 w_60 fun x31_1 w_61 =>
              CallP CC 201 [x29_1, x25_1, x31_1] w_61 fun x32_1 w_62 =>
              I y4 y5 w_62 ∧ μ y4 y5 w_62 < μ y4 y5 w_3))) else
        if i = 1 then (
          I y4 y5 w_12 ∧ μ y4 y5 w_12 < μ y4 y5 w_3) else
        if i = 0 then (
          LoadP CC 202 x2 w_12 fun x33_2 w_63 =>
          LoadP CC 210 x3 w_63 fun x34_2 w_64 =>
          CallP CC 207 [x33_2, x34_2] w_64 fun x35_2 w_65 =>
          ∃ f_3 cap_3, x35_2 = .func (.func f_3) #[] cap_3 ∧ hasB f_3 = true ∧ ∃ Stay_3 N_3 Args_3, Iter CC f_3 cap_3.toList w_65 Stay_3 N_3 Args_3 ∧ (∀ k w' vs, Args_3 k w' vs → vs.length = 2) ∧ ∃ (I_4 : Nat → World → Prop) (J_3 : Jmp → World → Prop),
          (∀ w', Vc.Sys w_65.heap.size w_65 w' → I_4 0 w') ∧ (∀ k w', I_4 k w' → Stay_3 k w') ∧
          (∀ k_3, k_3 < N_3 → ∀ x36_2 : Value, ∀ x37_2 : Value, ∀ w_66, I_4 k_3 w_66 → Args_3 k_3 w_66 [x36_2, x37_2] →
            AllocP CC 30 w_66 fun x11_2 w_70 =>
            StoreP CC 30 x11_2 x37_2 w_70 fun w_71 =>
            ∀ w_67, Vc.Sys w_65.heap.size w_71 w_67 →
            ∃ (T_2 : Nat × World → Nat × World → Prop) (L_2 : List Value → World → Prop), Hg T_2 ∧ Ht T_2 ∧ Hl L_2 w_67 ∧
            ∃ A38_2 A41_2 A43_2 A44_2 As9_2 : Value → Nat × World → Prop,
            (Fl T_2 w_67 0 fun n z => (LoadP CC 202 x2 z (Gk T_2 A38_2 n z))) ∧
            (∀ v38_2 : Value, Fl T_2 w_67 0 fun n z => A38_2 v38_2 (n, z) → (Is (nilV v38_2))) ∧
            (∀ v38_2 : Value, Fl T_2 w_67 0 fun n z => A38_2 v38_2 (n, z) → (Is (fieldAddrV (τ 215) 2 (gd (nilV v38_2))))) ∧
            (∀ v38_2 : Value, Fl T_2 w_67 0 fun n z => A38_2 v38_2 (n, z) → (LoadP CC 94 (gd (fieldAddrV (τ 215) 2 (gd (nilV v38_2)))) z (Gk T_2 A41_2 n z))) ∧
            (∀ v38_2 v41_2 : Value, Fl T_2 w_67 0 fun n z => (LoadP CC 30 x11_2 z (Gk T_2 A43_2 n z))) ∧
            (∀ v38_2 v41_2 v43_2 : Value, Fl T_2 w_67 0 fun n z => A43_2 v43_2 (n, z) → (CallP CC 42 [v43_2] z (Gk T_2 A44_2 n z))) ∧
            (∀ v38_2 v41_2 v43_2 v44_2 : Value, Fl T_2 w_67 0 fun n z => A43_2 v43_2 (n, z) → A44_2 v44_2 (n, z) → (Is (binV (.int .i64) .neq v44_2 (.int .i64 0)))) ∧
            (∀ v38_2 v41_2 v43_2 v44_2 : Value, Fl T_2 w_67 0 fun n z => A38_2 v38_2 (n, z) → A41_2 v41_2 (n, z) → A43_2 v43_2 (n, z) → A44_2 v44_2 (n, z) → (Is (indexAddrV (τ 94) v41_2 x36_2))) ∧
            (∀ v38_2 v41_2 v43_2 v44_2 : Value, Fl T_2 w_67 1 fun n z => n = 0 → L_2 [] z → A38_2 v38_2 (n, z) → A41_2 v41_2 (n, z) → A43_2 v43_2 (n, z) → A44_2 v44_2 (n, z) → StoreP CC 4 (gd (indexAddrV (τ 94) v41_2 x36_2)) (gd (binV (.int .i64) .neq v44_2 (.int .i64 0))) z fun y => Gl T_2 L_2 As9_2 n z [(gd (indexAddrV (τ 94) v41_2 x36_2))] undef y) ∧
            ∀ v38_2 v41_2 v43_2 v44_2 vs9_2 : Value, ∀ (h_3 : Nat → Value) (w_72 : World), T_2 (0, w_67) (1, w_72) → A38_2 v38_2 (1, w_72) → A41_2 v41_2 (1, w_72) → A43_2 v43_2 (1, w_72) → A44_2 v44_2 (1, w_72) → As9_2 vs9_2 (1, w_72) → L_2 [(gd (indexAddrV (τ 94) v41_2 x36_2))] w_72 → 
            ∀ w', Vc.Sys w_65.heap.size w_72 w' → I_4 (k_3 + 1) w') ∧
          (∀ w_68, I_4 N_3 w_68 →
            ∀ w_73, Vc.Sys w.heap.size w_68 w_73 →
            R (.tuple #[(.int .i64 0), (.bool true)]) w_73) ∧
          (∀ j w_69, J_3 j w_69 → match j with
            | .ret =>
              ∀ w_74, Vc.Sys w.heap.size w_69 w_74 →
              R (.tuple #[y4, y5]) w_74
            | .exit i =>
              if i = 4 then (
                ∀ w_75, Vc.Sys w.heap.size w_69 w_75 →
                R (.tuple #[(.int .i64 0), (.bool true)]) w_75) else
              False)) else
        False)
theorem V167_eq (a0 a1 : Value) (w : World) (R : Value → World → Prop) : V167 a0 a1 w R = FnP CC { keep := fun | 1 => [4, 5] | _ => [], lin := fun | 15 => [9] | _ => [] } Tryz.f167 [a0, a1] w R := by kernel_rfl
theorem call167 {a0 a1 : Value} {w : World} {R : Value → World → Prop} (h : V167 a0 a1 w R) : CallP CC 167 [a0, a1] w R :=
  call_of_vc CC.ok _ Tryz.func167 (V167_eq a0 a1 w R ▸ h)
def V168 (a0 a1 : Value) (w : World) (R : Value → World → Prop) : Prop :=
  BoxP CC 206 a0 w fun x2 w_1 =>
  AllocP CC 37 w_1 fun x4 w_2 =>
  ∃ x8, fieldAddrV (τ 206) 0 x2 = some x8 ∧
  ∃ x9, fieldAddrV (τ 25) 0 x8 = some x9 ∧
  LoadP CC 3 x9 w_2 fun x10 w_3 =>
  MakeP CC 23 x10 x10 w_3 fun x11 w_4 =>
  ∃ x13, fieldAddrV (τ 206) 0 x2 = some x13 ∧
  ∃ x14, fieldAddrV (τ 25) 0 x13 = some x14 ∧
  LoadP CC 3 x14 w_4 fun x15 w_5 =>
  ∃ x16, binV (.int .i64) .lss a1 x15 = some x16 ∧
  CondP x16 (
    CallP CC 36 [(.int .i64 1)] w_5 fun x19 w_6 =>
    ∃ x20, indexAddrV (τ 23) x11 a1 = some x20 ∧
    StoreP CC 30 x20 x19 w_6 fun w_7 =>
    ∃ x21, fieldAddrV (τ 206) 1 x2 = some x21 ∧
    LoadP CC 202 x21 w_7 fun x22 w_8 =>
    ∃ x23, nilV x22 = some x23 ∧
    ∃ x24, fieldAddrV (τ 215) 0 x23 = some x24 ∧
    ∃ x25, fieldAddrV (τ 213) 2 x24 = some x25 ∧
    LoadP CC 67 x25 w_8 fun x26 w_9 =>
    ∃ x27, lenV (τ 67) x26 = some x27 ∧
    ∃ (I : Value → World → Prop) (μ : Value → World → Nat), I (.int .i64 0) w_9 ∧
    ∀ y28 : Value, ∀ (h : Nat → Value) (w_10 : World), I y28 w_10 →
      ∃ x29, binV (.int .i64) .lss y28 x27 = some x29 ∧
      CondP x29 (
        ∃ x31, indexAddrV (τ 67) x26 y28 = some x31 ∧
        LoadP CC 3 x31 w_10 fun x32 w_11 =>
        ∃ x34, fieldAddrV (τ 206) 0 x2 = some x34 ∧
        ∃ x35, fieldAddrV (τ 25) 0 x34 = some x35 ∧
        LoadP CC 3 x35 w_11 fun x36 w_12 =>
        ∃ x37, binV (.int .i64) .lss x32 x36 = some x37 ∧
        CondP x37 (
          ∃ x40, fieldAddrV (τ 206) 1 x2 = some x40 ∧
          LoadP CC 202 x40 w_12 fun x41 w_13 =>
          ∃ x42, nilV x41 = some x42 ∧
          ∃ x43, fieldAddrV (τ 215) 0 x42 = some x43 ∧
          ∃ x44, fieldAddrV (τ 213) 0 x43 = some x44 ∧
          LoadP CC 22 x44 w_13 fun x45 w_14 =>
          ∃ x47, indexAddrV (τ 22) x45 y28 = some x47 ∧
          LoadP CC 23 x47 w_14 fun x48 w_15 =>
          ∃ x50, indexAddrV (τ 23) x48 a1 = some x50 ∧
          LoadP CC 30 x50 w_15 fun x51 w_16 =>
          CallP CC 151 [x51] w_16 fun x52 w_17 =>
          ∃ x53, indexAddrV (τ 23) x11 x32 = some x53 ∧
          StoreP CC 30 x53 x52 w_17 fun w_18 =>
          ∃ x54, binV (.int .i64) .add y28 (.int .i64 1) = some x54 ∧
          I x54 w_18 ∧ μ x54 w_18 < μ y28 w_10) (
          ∃ x54_1, binV (.int .i64) .add y28 (.int .i64 1) = some x54_1 ∧
          I x54_1 w_12 ∧ μ x54_1 w_12 < μ y28 w_10)) (
        LoadP CC 206 x2 w_10 fun x55 w_19 =>
        CallP CC 190 [x55] w_19 fun x56 w_20 =>
        ∃ x58, buildV (τ 37) [(0, (.int .u8 3)), (1, x56), (3, x11)] = some x58 ∧
        StoreP CC 37 x4 x58 w_20 fun w_21 =>
        ∃ ad r, x4 = .pointer (some ad) ∧ (loadVar 37 ad).run CC.P w_21 = .ok r w_21 ∧
        R r w_21)) (
    ∃ x21_1, fieldAddrV (τ 206) 1 x2 = some x21_1 ∧
    LoadP CC 202 x21_1 w_5 fun x22_1 w_22 =>
    ∃ x23_1, nilV x22_1 = some x23_1 ∧
    ∃ x24_1, fieldAddrV (τ 215) 0 x23_1 = some x24_1 ∧
    ∃ x25_1, fieldAddrV (τ 213) 2 x24_1 = some x25_1 ∧
    LoadP CC 67 x25_1 w_22 fun x26_1 w_23 =>
    ∃ x27_1, lenV (τ 67) x26_1 = some x27_1 ∧
    ∃ (I_1 : Value → World → Prop) (μ_1 : Value → World → Nat), I_1 (.int .i64 0) w_23 ∧
    ∀ y28_1 : Value, ∀ (h_1 : Nat → Value) (w_24 : World), I_1 y28_1 w_24 →
      ∃ x29_1, binV (.int .i64) .lss y28_1 x27_1 = some x29_1 ∧
      CondP x29_1 (
        ∃ x31_1, indexAddrV (τ 67) x26_1 y28_1 = some x31_1 ∧
        LoadP CC 3 x31_1 w_24 fun x32_1 w_25 =>
        ∃ x34_1, fieldAddrV (τ 206) 0 x2 = some x34_1 ∧
        ∃ x35_1, fieldAddrV (τ 25) 0 x34_1 = some x35_1 ∧
        LoadP CC 3 x35_1 w_25 fun x36_1 w_26 =>
        ∃ x37_1, binV (.int .i64) .lss x32_1 x36_1 = some x37_1 ∧
        CondP x37_1 (
          ∃ x40_1, fieldAddrV (τ 206) 1 x2 = some x40_1 ∧
          LoadP CC 202 x40_1 w_26 fun x41_1 w_27 =>
          ∃ x42_1, nilV x41_1 = some x42_1 ∧
          ∃ x43_1, fieldAddrV (τ 215) 0 x42_1 = some x43_1 ∧
          ∃ x44_1, fieldAddrV (τ 213) 0 x43_1 = some x44_1 ∧
          LoadP CC 22 x44_1 w_27 fun x45_1 w_28 =>
          ∃ x47_1, indexAddrV (τ 22) x45_1 y28_1 = some x47_1 ∧
          LoadP CC 23 x47_1 w_28 fun x48_1 w_29 =>
          ∃ x50_1, indexAddrV (τ 23) x48_1 a1 = some x50_1 ∧
          LoadP CC 30 x50_1 w_29 fun x51_1 w_30 =>
          CallP CC 151 [x51_1] w_30 fun x52_1 w_31 =>
          ∃ x53_1, indexAddrV (τ 23) x11 x32_1 = some x53_1 ∧
          StoreP CC 30 x53_1 x52_1 w_31 fun w_32 =>
          ∃ x54_2, binV (.int .i64) .add y28_1 (.int .i64 1) = some x54_2 ∧
          I_1 x54_2 w_32 ∧ μ_1 x54_2 w_32 < μ_1 y28_1 w_24) (
          ∃ x54_3, binV (.int .i64) .add y28_1 (.int .i64 1) = some x54_3 ∧
          I_1 x54_3 w_26 ∧ μ_1 x54_3 w_26 < μ_1 y28_1 w_24)) (
        LoadP CC 206 x2 w_24 fun x55_1 w_33 =>
        CallP CC 190 [x55_1] w_33 fun x56_1 w_34 =>
        ∃ x58_1, buildV (τ 37) [(0, (.int .u8 3)), (1, x56_1), (3, x11)] = some x58_1 ∧
        StoreP CC 37 x4 x58_1 w_34 fun w_35 =>
        ∃ ad_1 r_1, x4 = .pointer (some ad_1) ∧ (loadVar 37 ad_1).run CC.P w_35 = .ok r_1 w_35 ∧
        R r_1 w_35))
theorem V168_eq (a0 a1 : Value) (w : World) (R : Value → World → Prop) : V168 a0 a1 w R = FnP CC { keep := fun | 5 => [28] | _ => [], lin := fun _ => [] } Tryz.f168 [a0, a1] w R := by kernel_rfl
theorem call168 {a0 a1 : Value} {w : World} {R : Value → World → Prop} (h : V168 a0 a1 w R) : CallP CC 168 [a0, a1] w R :=
  call_of_vc CC.ok _ Tryz.func168 (V168_eq a0 a1 w R ▸ h)
def V190 (a0 : Value) (w : World) (R : Value → World → Prop) : Prop :=
  BoxP CC 206 a0 w fun x1 w_1 =>
  ∃ x6, fieldAddrV (τ 206) 0 x1 = some x6 ∧
  ∃ x7, fieldAddrV (τ 25) 0 x6 = some x7 ∧
  LoadP CC 3 x7 w_1 fun x8 w_2 =>
  MakeP CC 23 x8 x8 w_2 fun x9 w_3 =>
  ∃ x10, fieldAddrV (τ 206) 1 x1 = some x10 ∧
  LoadP CC 202 x10 w_3 fun x11 w_4 =>
  ∃ x12, nilV x11 = some x12 ∧
  ∃ x13, fieldAddrV (τ 215) 0 x12 = some x13 ∧
  ∃ x14, fieldAddrV (τ 213) 2 x13 = some x14 ∧
  LoadP CC 67 x14 w_4 fun x15 w_5 =>
  ∃ x16, lenV (τ 67) x15 = some x16 ∧
  ∃ (I : Value → World → Prop) (μ : Value → World → Nat), I (.int .i64 0) w_5 ∧
  ∀ y17 : Value, ∀ (h : Nat → Value) (w_6 : World), I y17 w_6 →
    ∃ x18, binV (.int .i64) .lss y17 x16 = some x18 ∧
    CondP x18 (
      ∃ x20, indexAddrV (τ 67) x15 y17 = some x20 ∧
      LoadP CC 3 x20 w_6 fun x21 w_7 =>
      ∃ x23, fieldAddrV (τ 206) 0 x1 = some x23 ∧
      ∃ x24, fieldAddrV (τ 25) 0 x23 = some x24 ∧
      LoadP CC 3 x24 w_7 fun x25 w_8 =>
      ∃ x26, binV (.int .i64) .lss x21 x25 = some x26 ∧
      CondP x26 (
        ∃ x29, fieldAddrV (τ 206) 1 x1 = some x29 ∧
        LoadP CC 202 x29 w_8 fun x30 w_9 =>
        ∃ x31, nilV x30 = some x31 ∧
        ∃ x32, fieldAddrV (τ 215) 0 x31 = some x32 ∧
        ∃ x33, fieldAddrV (τ 213) 1 x32 = some x33 ∧
        LoadP CC 23 x33 w_9 fun x34 w_10 =>
        ∃ x36, indexAddrV (τ 23) x34 y17 = some x36 ∧
        LoadP CC 30 x36 w_10 fun x37 w_11 =>
        CallP CC 87 [x37] w_11 fun x38 w_12 =>
        ∃ x39, indexAddrV (τ 23) x9 x21 = some x39 ∧
        StoreP CC 30 x39 x38 w_12 fun w_13 =>
        ∃ x40, binV (.int .i64) .add y17 (.int .i64 1) = some x40 ∧
        I x40 w_13 ∧ μ x40 w_13 < μ y17 w_6) (
        ∃ x40_1, binV (.int .i64) .add y17 (.int .i64 1) = some x40_1 ∧
        I x40_1 w_8 ∧ μ x40_1 w_8 < μ y17 w_6)) (
      R x9 w_6)
theorem V190_eq (a0 : Value) (w : World) (R : Value → World → Prop) : V190 a0 w R = FnP CC { keep := fun | 3 => [17] | _ => [], lin := fun _ => [] } Tryz.f190 [a0] w R := by kernel_rfl
theorem call190 {a0 : Value} {w : World} {R : Value → World → Prop} (h : V190 a0 w R) : CallP CC 190 [a0] w R :=
  call_of_vc CC.ok _ Tryz.func190 (V190_eq a0 w R ▸ h)
def V201 (a0 a1 a2 : Value) (w : World) (R : Value → World → Prop) : Prop :=
  ∃ (T : Nat × World → Nat × World → Prop) (L : List Value → World → Prop), Hg T ∧ Ht T ∧ Hl L w ∧
  ∃ A11 A16 A19 A22 A23 A6 As17 : Value → Nat × World → Prop,
  (Fl T w 0 fun n z => (CallP CC 36 [(.int .i64 1)] z (Gk T A11 n z))) ∧
  (∀ v11 : Value, Fl T w 0 fun n z => (Is (nilV a0))) ∧
  (∀ v11 : Value, Fl T w 0 fun n z => (Is (fieldAddrV (τ 215) 0 (gd (nilV a0))))) ∧
  (∀ v11 : Value, Fl T w 0 fun n z => (Is (fieldAddrV (τ 213) 0 (gd (fieldAddrV (τ 215) 0 (gd (nilV a0))))))) ∧
  (∀ v11 : Value, Fl T w 0 fun n z => (LoadP CC 22 (gd (fieldAddrV (τ 213) 0 (gd (fieldAddrV (τ 215) 0 (gd (nilV a0)))))) z (Gk T A16 n z))) ∧
  (∀ v11 v16 : Value, Fl T w 0 fun n z => A16 v16 (n, z) → (Is (indexAddrV (τ 22) v16 a1))) ∧
  (∀ v11 v16 : Value, Fl T w 0 fun n z => A16 v16 (n, z) → (LoadP CC 23 (gd (indexAddrV (τ 22) v16 a1)) z (Gk T A19 n z))) ∧
  (∀ v11 v16 v19 : Value, Fl T w 0 fun n z => A16 v16 (n, z) → A19 v19 (n, z) → (Is (indexAddrV (τ 23) v19 a2))) ∧
  (∀ v11 v16 v19 : Value, Fl T w 0 fun n z => A16 v16 (n, z) → A19 v19 (n, z) → (LoadP CC 30 (gd (indexAddrV (τ 23) v19 a2)) z (Gk T A22 n z))) ∧
  (∀ v11 v16 v19 v22 : Value, Fl T w 0 fun n z => A11 v11 (n, z) → A16 v16 (n, z) → A19 v19 (n, z) → A22 v22 (n, z) → (CallP CC 195 [v11, v22] z (Gk T A23 n z))) ∧
  (∀ v11 v16 v19 v22 v23 : Value, Fl T w 0 fun n z => A11 v11 (n, z) → A16 v16 (n, z) → A19 v19 (n, z) → A22 v22 (n, z) → A23 v23 (n, z) → (Is (extrV v23 0))) ∧
  (∀ v11 v16 v19 v22 v23 : Value, Fl T w 1 fun n z => A11 v11 (n, z) → A16 v16 (n, z) → A19 v19 (n, z) → A22 v22 (n, z) → A23 v23 (n, z) → (Is (extrV v23 1))) ∧
  (∀ v11 v16 v19 v22 v23 : Value, Fl T w 0 fun n z => (AllocP CC 30 z (Gk T A6 n z))) ∧
  (∀ v11 v16 v19 v22 v23 v6 : Value, Fl T w 1 fun n z => n = 0 → L [] z → A11 v11 (n, z) → A16 v16 (n, z) → A19 v19 (n, z) → A22 v22 (n, z) → A23 v23 (n, z) → A6 v6 (n, z) → StoreP CC 30 v6 (gd (extrV v23 0)) z fun y => Gl T L As17 n z [v6] undef y) ∧
  ∀ v11 v16 v19 v22 v23 v6 vs17 : Value, ∀ (h : Nat → Value) (w_1 : World), T (0, w) (1, w_1) → A11 v11 (1, w_1) → A16 v16 (1, w_1) → A19 v19 (1, w_1) → A22 v22 (1, w_1) → A23 v23 (1, w_1) → A6 v6 (1, w_1) → As17 vs17 (1, w_1) → L [v6] w_1 → 
  ∃ (T_1 : Nat × World → Nat × World → Prop) (L_1 : List Value → World → Prop), Hg T_1 ∧ Ht T_1 ∧ Hl L_1 w_1 ∧
  ∃ A30 A36 A38 A43 A46 A47 A48 A53 A56 A57 As33 As35 : Value → Nat × World → Prop,
  (Fl T_1 w_1 0 fun n z => (Is (nilV a0))) ∧
  (Fl T_1 w_1 0 fun n z => (Is (fieldAddrV (τ 215) 0 (gd (nilV a0))))) ∧
  (Fl T_1 w_1 0 fun n z => (Is (fieldAddrV (τ 213) 0 (gd (fieldAddrV (τ 215) 0 (gd (nilV a0))))))) ∧
  (Fl T_1 w_1 0 fun n z => (LoadP CC 22 (gd (fieldAddrV (τ 213) 0 (gd (fieldAddrV (τ 215) 0 (gd (nilV a0)))))) z (Gk T_1 A30 n z))) ∧
  (∀ v30 : Value, Fl T_1 w_1 0 fun n z => (Is (nilV a0))) ∧
  (∀ v30 : Value, Fl T_1 w_1 0 fun n z => (Is (fieldAddrV (τ 215) 0 (gd (nilV a0))))) ∧
  (∀ v30 : Value, Fl T_1 w_1 0 fun n z => (Is (fieldAddrV (τ 213) 1 (gd (fieldAddrV (τ 215) 0 (gd (nilV a0))))))) ∧
  (∀ v30 : Value, Fl T_1 w_1 0 fun n z => (LoadP CC 23 (gd (fieldAddrV (τ 213) 1 (gd (fieldAddrV (τ 215) 0 (gd (nilV a0)))))) z (Gk T_1 A36 n z))) ∧
  (∀ v30 v36 : Value, Fl T_1 w_1 0 fun n z => (LoadP CC 30 v6 z (Gk T_1 A38 n z))) ∧
  (∀ v30 v36 v38 : Value, Fl T_1 w_1 0 fun n z => (Is (nilV a0))) ∧
  (∀ v30 v36 v38 : Value, Fl T_1 w_1 0 fun n z => (Is (fieldAddrV (τ 215) 0 (gd (nilV a0))))) ∧
  (∀ v30 v36 v38 : Value, Fl T_1 w_1 0 fun n z => (Is (fieldAddrV (τ 213) 0 (gd (fieldAddrV (τ 215) 0 (gd (nilV a0))))))) ∧
  (∀ v30 v36 v38 : Value, Fl T_1 w_1 0 fun n z => (LoadP CC 22 (gd (fieldAddrV (τ 213) 0 (gd (fieldAddrV (τ 215) 0 (gd (nilV a0)))))) z (Gk T_1 A43 n z))) ∧
  (∀ v30 v36 v38 v43 : Value, Fl T_1 w_1 0 fun n z => A43 v43 (n, z) → (Is (indexAddrV (τ 22) v43 a1))) ∧
  (∀ v30 v36 v38 v43 : Value, Fl T_1 w_1 0 fun n z => A43 v43 (n, z) → (LoadP CC 23 (gd (indexAddrV (τ 22) v43 a1)) z (Gk T_1 A46 n z))) ∧
  (∀ v30 v36 v38 v43 v46 : Value, Fl T_1 w_1 0 fun n z => A38 v38 (n, z) → A43 v43 (n, z) → A46 v46 (n, z) → (CallP CC 104 [v38, v46] z (Gk T_1 A47 n z))) ∧
  (∀ v30 v36 v38 v43 v46 v47 : Value, Fl T_1 w_1 0 fun n z => (LoadP CC 30 v6 z (Gk T_1 A48 n z))) ∧
  (∀ v30 v36 v38 v43 v46 v47 v48 : Value, Fl T_1 w_1 0 fun n z => (Is (nilV a0))) ∧
  (∀ v30 v36 v38 v43 v46 v47 v48 : Value, Fl T_1 w_1 0 fun n z => (Is (fieldAddrV (τ 215) 0 (gd (nilV a0))))) ∧
  (∀ v30 v36 v38 v43 v46 v47 v48 : Value, Fl T_1 w_1 0 fun n z => (Is (fieldAddrV (τ 213) 1 (gd (fieldAddrV (τ 215) 0 (gd (nilV a0))))))) ∧
  (∀ v30 v36 v38 v43 v46 v47 v48 : Value, Fl T_1 w_1 0 fun n z => (LoadP CC 23 (gd (fieldAddrV (τ 213) 1 (gd (fieldAddrV (τ 215) 0 (gd (nilV a0)))))) z (Gk T_1 A53 n z))) ∧
  (∀ v30 v36 v38 v43 v46 v47 v48 v53 : Value, Fl T_1 w_1 0 fun n z => A53 v53 (n, z) → (Is (indexAddrV (τ 23) v53 a1))) ∧
  (∀ v30 v36 v38 v43 v46 v47 v48 v53 : Value, Fl T_1 w_1 0 fun n z => A53 v53 (n, z) → (LoadP CC 30 (gd (indexAddrV (τ 23) v53 a1)) z (Gk T_1 A56 n z))) ∧
  (∀ v30 v36 v38 v43 v46 v47 v48 v53 v56 : Value, Fl T_1 w_1 0 fun n z => A38 v38 (n, z) → A43 v43 (n, z) → A46 v46 (n, z) → A47 v47 (n, z) → A48 v48 (n, z) → A53 v53 (n, z) → A56 v56 (n, z) → (CallP CC 44 [v48, v56] z (Gk T_1 A57 n z))) ∧
  (∀ v30 v36 v38 v43 v46 v47 v48 v53 v56 v57 : Value, Fl T_1 w_1 0 fun n z => A30 v30 (n, z) → A36 v36 (n, z) → A38 v38 (n, z) → A43 v43 (n, z) → A46 v46 (n, z) → A47 v47 (n, z) → A48 v48 (n, z) → A53 v53 (n, z) → A56 v56 (n, z) → A57 v57 (n, z) → (Is (indexAddrV (τ 22) v30 a1))) ∧
  (∀ v30 v36 v38 v43 v46 v47 v48 v53 v56 v57 : Value, Fl T_1 w_1 1 fun n z => n = 0 → L_1 [] z → A30 v30 (n, z) → A36 v36 (n, z) → A38 v38 (n, z) → A43 v43 (n, z) → A46 v46 (n, z) → A47 v47 (n, z) → A48 v48 (n, z) → A53 v53 (n, z) → A56 v56 (n, z) → A57 v57 (n, z) → StoreP CC 23 (gd (indexAddrV (τ 22) v30 a1)) v47 z fun y => Gl T_1 L_1 As33 n z [(gd (indexAddrV (τ 22) v30 a1))] undef y) ∧
  (∀ v30 v36 v38 v43 v46 v47 v48 v53 v56 v57 vs33 : Value, Fl T_1 w_1 1 fun n z => A30 v30 (n, z) → A36 v36 (n, z) → A38 v38 (n, z) → A43 v43 (n, z) → A46 v46 (n, z) → A47 v47 (n, z) → A48 v48 (n, z) → A53 v53 (n, z) → A56 v56 (n, z) → A57 v57 (n, z) → As33 vs33 (n, z) → (Is (indexAddrV (τ 23) v36 a1))) ∧
  (∀ v30 v36 v38 v43 v46 v47 v48 v53 v56 v57 vs33 : Value, Fl T_1 w_1 2 fun n z => n = 1 → L_1 [(gd (indexAddrV (τ 22) v30 a1))] z → A30 v30 (n, z) → A36 v36 (n, z) → A38 v38 (n, z) → A43 v43 (n, z) → A46 v46 (n, z) → A47 v47 (n, z) → A48 v48 (n, z) → A53 v53 (n, z) → A56 v56 (n, z) → A57 v57 (n, z) → As33 vs33 (n, z) → StoreP CC 30 (gd (indexAddrV (τ 23) v36 a1)) v57 z fun y => Gl T_1 L_1 As35 n z [(gd (indexAddrV (τ 22) v30 a1)), (gd (indexAddrV (τ 23) v36 a1))] undef y) ∧
  ∀ v30 v36 v38 v43 v46 v47 v48 v53 v56 v57 vs33 vs35 : Value, ∀ (h_1 : Nat → Value) (w_2 : World), T_1 (0, w_1) (2, w_2) → A30 v30 (2, w_2) → A36 v36 (2, w_2) → A38 v38 (2, w_2) → A43 v43 (2, w_2) → A46 v46 (2, w_2) → A47 v47 (2, w_2) → A48 v48 (2, w_2) → A53 v53 (2, w_2) → A56 v56 (2, w_2) → A57 v57 (2, w_2) → As33 vs33 (2, w_2) → As35 vs35 (2, w_2) → L_1 [(gd (indexAddrV (τ 22) v30 a1)), (gd (indexAddrV (τ 23) v36 a1))] w_2 → 
  ∃ x61, nilV a0 = some x61 ∧
  ∃ x62, fieldAddrV (τ 215) 0 x61 = some x62 ∧
  ∃ x63, fieldAddrV (τ 213) 0 x62 = some x63 ∧
  LoadP CC 22 x63 w_2 fun x64 w_3 =>
  ∃ x65, lenV (τ 22) x64 = some x65 ∧
  ∃ (I : Value → World → Prop) (μ : Value → World → Nat), I (.int .i64 0) w_3 ∧
  ∀ y66 : Value, ∀ (h_2 : Nat → Value) (w_4 : World), I y66 w_4 →
    ∃ x67, binV (.int .i64) .lss y66 x65 = some x67 ∧
    CondP x67 (
      ∃ x70, nilV a0 = some x70 ∧
      ∃ x71, fieldAddrV (τ 215) 0 x70 = some x71 ∧
      ∃ x72, fieldAddrV (τ 213) 0 x71 = some x72 ∧
      LoadP CC 22 x72 w_4 fun x73 w_5 =>
      ∃ x75, indexAddrV (τ 22) x73 y66 = some x75 ∧
      LoadP CC 23 x75 w_5 fun x76 w_6 =>
      ∃ x78, indexAddrV (τ 23) x76 a2 = some x78 ∧
      LoadP CC 30 x78 w_6 fun x79 w_7 =>
      CallP CC 151 [x79] w_7 fun x80 w_8 =>
      AllocP CC 30 w_8 fun x9 w_9 =>
      StoreP CC 30 x9 x80 w_9 fun w_10 =>
      ∃ x83, binV (.int .i64) .neq y66 a1 = some x83 ∧
      CondP x83 (
        LoadP CC 30 x9 w_10 fun x85 w_11 =>
        CallP CC 42 [x85] w_11 fun x86 w_12 =>
        ∃ x87, binV (.int .i64) .neq x86 (.int .i64 0) = some x87 ∧
        ∃ x88, pickV x83 x87 (.bool false) = some x88 ∧
        CondP x88 (
          ∃ (T_2 : Nat × World → Nat × World → Prop) (L_2 : List Value → World → Prop), Hg T_2 ∧ Ht T_2 ∧ Hl L_2 w_12 ∧
          ∃ A93 A99 A101 A106 A109 A114 A117 A118 A119 A124 A127 A128 A133 A136 A137 As50 As52 : Value → Nat × World → Prop,
          (Fl T_2 w_12 0 fun n z => (Is (nilV a0))) ∧
          (Fl T_2 w_12 0 fun n z => (Is (fieldAddrV (τ 215) 0 (gd (nilV a0))))) ∧
          (Fl T_2 w_12 0 fun n z => (Is (fieldAddrV (τ 213) 0 (gd (fieldAddrV (τ 215) 0 (gd (nilV a0))))))) ∧
          (Fl T_2 w_12 0 fun n z => (LoadP CC 22 (gd (fieldAddrV (τ 213) 0 (gd (fieldAddrV (τ 215) 0 (gd (nilV a0)))))) z (Gk T_2 A93 n z))) ∧
          (∀ v93 : Value, Fl T_2 w_12 0 fun n z => (Is (nilV a0))) ∧
          (∀ v93 : Value, Fl T_2 w_12 0 fun n z => (Is (fieldAddrV (τ 215) 0 (gd (nilV a0))))) ∧
          (∀ v93 : Value, Fl T_2 w_12 0 fun n z => (Is (fieldAddrV (τ 213) 1 (gd (fieldAddrV (τ 215) 0 (gd (nilV a0))))))) ∧
          (∀ v93 : Value, Fl T_2 w_12 0 fun n z => (LoadP CC 23 (gd (fieldAddrV (τ 213) 1 (gd (fieldAddrV (τ 215) 0 (gd (nilV a0)))))) z (Gk T_2 A99 n z))) ∧
          (∀ v93 v99 : Value, Fl T_2 w_12 0 fun n z => (LoadP CC 30 x9 z (Gk T_2 A101 n z))) ∧
          (∀ v93 v99 v101 : Value, Fl T_2 w_12 0 fun n z => (Is (nilV a0))) ∧
          (∀ v93 v99 v101 : Value, Fl T_2 w_12 0 fun n z => (Is (fieldAddrV (τ 215) 0 (gd (nilV a0))))) ∧
          (∀ v93 v99 v101 : Value, Fl T_2 w_12 0 fun n z => (Is (fieldAddrV (τ 213) 0 (gd (fieldAddrV (τ 215) 0 (gd (nilV a0))))))) ∧
          (∀ v93 v99 v101 : Value, Fl T_2 w_12 0 fun n z => (LoadP CC 22 (gd (fieldAddrV (τ 213) 0 (gd (fieldAddrV (τ 215) 0 (gd (nilV a0)))))) z (Gk T_2 A106 n z))) ∧
          (∀ v93 v99 v101 v106 : Value, Fl T_2 w_12 0 fun n z => A106 v106 (n, z) → (Is (indexAddrV (τ 22) v106 a1))) ∧
          (∀ v93 v99 v101 v106 : Value, Fl T_2 w_12 0 fun n z => A106 v106 (n, z) → (LoadP CC 23 (gd (indexAddrV (τ 22) v106 a1)) z (Gk T_2 A109 n z))) ∧
          (∀ v93 v99 v101 v106 v109 : Value, Fl T_2 w_12 0 fun n z => (Is (nilV a0))) ∧
          (∀ v93 v99 v101 v106 v109 : Value, Fl T_2 w_12 0 fun n z => (Is (fieldAddrV (τ 215) 0 (gd (nilV a0))))) ∧
          (∀ v93 v99 v101 v106 v109 : Value, Fl T_2 w_12 0 fun n z => (Is (fieldAddrV (τ 213) 0 (gd (fieldAddrV (τ 215) 0 (gd (nilV a0))))))) ∧
          (∀ v93 v99 v101 v106 v109 : Value, Fl T_2 w_12 0 fun n z => (LoadP CC 22 (gd (fieldAddrV (τ 213) 0 (gd (fieldAddrV (τ 215) 0 (gd (nilV a0)))))) z (Gk T_2 A114 n z))) ∧
          (∀ v93 v99 v101 v106 v109 v114 : Value, Fl T_2 w_12 0 fun n z => A114 v114 (n, z) → (Is (indexAddrV (τ 22) v114 y66))) ∧
          (∀ v93 v99 v101 v106 v109 v114 : Value, Fl T_2 w_12 0 fun n z => A114 v114 (n, z) → (LoadP CC 23 (gd (indexAddrV (τ 22) v114 y66)) z (Gk T_2 A117 n z))) ∧
          (∀ v93 v99 v101 v106 v109 v114 v117 : Value, Fl T_2 w_12 0 fun n z => A101 v101 (n, z) → A106 v106 (n, z) → A109 v109 (n, z) → A114 v114 (n, z) → A117 v117 (n, z) → (CallP CC 24 [v101, v109, v117] z (Gk T_2 A118 n z))) ∧
          (∀ v93 v99 v101 v106 v109 v114 v117 v118 : Value, Fl T_2 w_12 0 fun n z => (LoadP CC 30 x9 z (Gk T_2 A119 n z))) ∧
          (∀ v93 v99 v101 v106 v109 v114 v117 v118 v119 : Value, Fl T_2 w_12 0 fun n z => (Is (nilV a0))) ∧
          (∀ v93 v99 v101 v106 v109 v114 v117 v118 v119 : Value, Fl T_2 w_12 0 fun n z => (Is (fieldAddrV (τ 215) 0 (gd (nilV a0))))) ∧
          (∀ v93 v99 v101 v106 v109 v114 v117 v118 v119 : Value, Fl T_2 w_12 0 fun n z => (Is (fieldAddrV (τ 213) 1 (gd (fieldAddrV (τ 215) 0 (gd (nilV a0))))))) ∧
          (∀ v93 v99 v101 v106 v109 v114 v117 v118 v119 : Value, Fl T_2 w_12 0 fun n z => (LoadP CC 23 (gd (fieldAddrV (τ 213) 1 (gd (fieldAddrV (τ 215) 0 (gd (nilV a0)))))) z (Gk T_2 A124 n z))) ∧
          (∀ v93 v99 v101 v106 v109 v114 v117 v118 v119 v124 : Value, Fl T_2 w_12 0 fun n z => A124 v124 (n, z) → (Is (indexAddrV (τ 23) v124 a1))) ∧
          (∀ v93 v99 v101 v106 v109 v114 v117 v118 v119 v124 : Value, Fl T_2 w_12 0 fun n z => A124 v124 (n, z) → (LoadP CC 30 (gd (indexAddrV (τ 23) v124 a1)) z (Gk T_2 A127 n z))) ∧
          (∀ v93 v99 v101 v106 v109 v114 v117 v118 v119 v124 v127 : Value, Fl T_2 w_12 0 fun n z => A101 v101 (n, z) → A106 v106 (n, z) → A109 v109 (n, z) → A114 v114 (n, z) → A117 v117 (n, z) → A118 v118 (n, z) → A119 v119 (n, z) → A124 v124 (n, z) → A127 v127 (n, z) → (CallP CC 44 [v119, v127] z (Gk T_2 A128 n z))) ∧
          (∀ v93 v99 v101 v106 v109 v114 v117 v118 v119 v124 v127 v128 : Value, Fl T_2 w_12 0 fun n z => (Is (nilV a0))) ∧
          (∀ v93 v99 v101 v106 v109 v114 v117 v118 v119 v124 v127 v128 : Value, Fl T_2 w_12 0 fun n z => (Is (fieldAddrV (τ 215) 0 (gd (nilV a0))))) ∧
          (∀ v93 v99 v101 v106 v109 v114 v117 v118 v119 v124 v127 v128 : Value, Fl T_2 w_12 0 fun n z => (Is (fieldAddrV (τ 213) 1 (gd (fieldAddrV (τ 215) 0 (gd (nilV a0))))))) ∧
          (∀ v93 v99 v101 v106 v109 v114 v117 v118 v119 v124 v127 v128 : Value, Fl T_2 w_12 0 fun n z => (LoadP CC 23 (gd (fieldAddrV (τ 213) 1 (gd (fieldAddrV (τ 215) 0 (gd (nilV a0)))))) z (Gk T_2 A133 n z))) ∧
          (∀ v93 v99 v101 v106 v109 v114 v117 v118 v119 v124 v127 v128 v133 : Value, Fl T_2 w_12 0 fun n z => A133 v133 (n, z) → (Is (indexAddrV (τ 23) v133 y66))) ∧
          (∀ v93 v99 v101 v106 v109 v114 v117 v118 v119 v124 v127 v128 v133 : Value, Fl T_2 w_12 0 fun n z => A133 v133 (n, z) → (LoadP CC 30 (gd (indexAddrV (τ 23) v133 y66)) z (Gk T_2 A136 n z))) ∧
          (∀ v93 v99 v101 v106 v109 v114 v117 v118 v119 v124 v127 v128 v133 v136 : Value, Fl T_2 w_12 0 fun n z => A101 v101 (n, z) → A106 v106 (n, z) → A109 v109 (n, z) → A114 v114 (n, z) → A117 v117 (n, z) → A118 v118 (n, z) → A119 v119 (n, z) → A124 v124 (n, z) → A127 v127 (n, z) → A128 v128 (n, z) → A133 v133 (n, z) → A136 v136 (n, z) → (CallP CC 41 [v128, v136] z (Gk T_2 A137 n z))) ∧
          (∀ v93 v99 v101 v106 v109 v114 v117 v118 v119 v124 v127 v128 v133 v136 v137 : Value, Fl T_2 w_12 0 fun n z => A93 v93 (n, z) → A99 v99 (n, z) → A101 v101 (n, z) → A106 v106 (n, z) → A109 v109 (n, z) → A114 v114 (n, z) → A117 v117 (n, z) → A118 v118 (n, z) → A119 v119 (n, z) → A124 v124 (n, z) → A127 v127 (n, z) → A128 v128 (n, z) → A133 v133 (n, z) → A136 v136 (n, z) → A137 v137 (n, z) → (Is (indexAddrV (τ 22) v93 y66))) ∧
          (∀ v93 v99 v101 v106 v109 v114 v117 v118 v119 v124 v127 v128 v133 v136 v137 : Value, Fl T_2 w_12 1 fun n z => n = 0 → L_2 [] z → A93 v93 (n, z) → A99 v99 (n, z) → A101 v101 (n, z) → A106 v106 (n, z) → A109 v109 (n, z) → A114 v114 (n, z) → A117 v117 (n, z) → A118 v118 (n, z) → A119 v119 (n, z) → A124 v124 (n, z) → A127 v127 (n, z) → A128 v128 (n, z) → A133 v133 (n, z) → A136 v136 (n, z) → A137 v137 (n, z) → StoreP CC 23 (gd (indexAddrV (τ 22) v93 y66)) v118 z fun y => Gl T_2 L_2 As50 n z [(gd (indexAddrV (τ 22) v93 y66))] undef y) ∧
          (∀ v93 v99 v101 v106 v109 v114 v117 v118 v119 v124 v127 v128 v133 v136 v137 vs50 : Value, Fl T_2 w_12 1 fun n z => A93 v93 (n, z) → A99 v99 (n, z) → A101 v101 (n, z) → A106 v106 (n, z) → A109 v109 (n, z) → A114 v114 (n, z) → A117 v117 (n, z) → A118 v118 (n, z) → A119 v119 (n, z) → A124 v124 (n, z) → A127 v127 (n, z) → A128 v128 (n, z) → A133 v133 (n, z) → A136 v136 (n, z) → A137 v137 (n, z) → As50 vs50 (n, z) → (Is (indexAddrV (τ 23) v99 y66))) ∧
          (∀ v93 v99 v101 v106 v109 v114 v117 v118 v119 v124 v127 v128 v133 v136 v137 vs50 : Value, Fl T_2 w_12 2 fun n z => n = 1 → L_2 [(gd (indexAddrV (τ 22) v93 y66))] z → A93 v93 (n, z) → A99 v99 (n, z) → A101 v101 (n, z) → A106 v106 (n, z) → A109 v109 (n, z) → A114 v114 (n, z) → A117 v117 (n, z) → A118 v118 (n, z) → A119 v119 (n, z) → A124 v124 (n, z) → A127 v127 (n, z) → A128 v128 (n, z) → A133 v133 (n, z) → A136 v136 (n, z) → A137 v137 (n, z) → As50 vs50 (n, z) → StoreP CC 30 (gd (indexAddrV (τ 23) v99 y66)) v137 z fun y => Gl T_2 L_2 As52 n z [(gd (indexAddrV (τ 22) v93 y66)), (gd (indexAddrV (τ 23) v99 y66))] undef y) ∧
          ∀ v93 v99 v101 v106 v109 v114 v117 v118 v119 v124 v127 v128 v133 v136 v137 vs50 vs52 : Value, ∀ (h_3 : Nat → Value) (w_13 : World), T_2 (0, w_12) (2, w_13) → A93 v93 (2, w_13) → A99 v99 (2, w_13) → A101 v101 (2, w_13) → A106 v106 (2, w_13) → A109 v109 (2, w_13) → A114 v114 (2, w_13) → A117 v117 (2, w_13) → A118 v118 (2, w_13) → A119 v119 (2, w_13) → A124 v124 (2, w_13) → A127 v127 (2, w_13) → A128 v128 (2, w_13) → A133 v133 (2, w_13) → A136 v136 (2, w_13) → A137 v137 (2, w_13) → As50 vs50 (2, w_13) → As52 vs52 (2, w_13) → L_2 [(gd (indexAddrV (τ 22) v93 y66)), (gd (indexAddrV (τ 23) v99 y66))] w_13 → 
          ∃ x140, binV (.int .i64) .add y66 (.int .i64 1) = some x140 ∧
          I x140 w_13 ∧ μ x140 w_13 < μ y66 w_4) (
          ∃ x140_1, binV (.int .i64) .add y66 (.int .i64 1) = some x140_1 ∧
          I x140_1 w_12 ∧ μ x140_1 w_12 < μ y66 w_4)) (
        ∃ x88_1, pickV x83 undef (.bool false) = some x88_1 ∧
        CondP x88_1 (
          ∃ (T_3 : Nat × World → Nat × World → Prop) (L_3 : List Value → World → Prop), Hg T_3 ∧ Ht T_3 ∧ Hl L_3 w_10 ∧
          ∃ A93_1 A99_1 A101_1 A106_1 A109_1 A114_1 A117_1 A118_1 A119_1 A124_1 A127_1 A128_1 A133_1 A136_1 A137_1 As50_1 As52_1 : Value → Nat × World → Prop,
          (Fl T_3 w_10 0 fun n z => (Is (nilV a0))) ∧
          (Fl T_3 w_10 0 fun n z => (Is (fieldAddrV (τ 215) 0 (gd (nilV a0))))) ∧
          (Fl T_3 w_10 0 fun n z => (Is (fieldAddrV (τ 213) 0 (gd (fieldAddrV (τ 215) 0 (gd (nilV a0))))))) ∧
          (Fl T_3 w_10 0 fun n z => (LoadP CC 22 (gd (fieldAddrV (τ 213) 0 (gd (fieldAddrV (τ 215) 0 (gd (nilV a0)))))) z (Gk T_3 A93_1 n z))) ∧
          (∀ v93_1 : Value, Fl T_3 w_10 0 fun n z => (Is (nilV a0))) ∧
          (∀ v93_1 : Value, Fl T_3 w_10 0 fun n z => (Is (fieldAddrV (τ 215) 0 (gd (nilV a0))))) ∧
          (∀ v93_1 : Value, Fl T_3 w_10 0 fun n z => (Is (fieldAddrV (τ 213) 1 (gd (fieldAddrV (τ 215) 0 (gd (nilV a0))))))) ∧
          (∀ v93_1 : Value, Fl T_3 w_10 0 fun n z => (LoadP CC 23 (gd (fieldAddrV (τ 213) 1 (gd (fieldAddrV (τ 215) 0 (gd (nilV a0)))))) z (Gk T_3 A99_1 n z))) ∧
          (∀ v93_1 v99_1 : Value, Fl T_3 w_10 0 fun n z => (LoadP CC 30 x9 z (Gk T_3 A101_1 n z))) ∧
          (∀ v93_1 v99_1 v101_1 : Value, Fl T_3 w_10 0 fun n z => (Is (nilV a0))) ∧
          (∀ v93_1 v99_1 v101_1 : Value, Fl T_3 w_10 0 fun n z => (Is (fieldAddrV (τ 215) 0 (gd (nilV a0))))) ∧
          (∀ v93_1 v99_1 v101_1 : Value, Fl T_3 w_10 0 fun n z => (Is (fieldAddrV (τ 213) 0 (gd (fieldAddrV (τ 215) 0 (gd (nilV a0))))))) ∧
          (∀ v93_1 v99_1 v101_1 : Value, Fl T_3 w_10 0 fun n z => (LoadP CC 22 (gd (fieldAddrV (τ 213) 0 (gd (fieldAddrV (τ 215) 0 (gd (nilV a0)))))) z (Gk T_3 A106_1 n z))) ∧
          (∀ v93_1 v99_1 v101_1 v106_1 : Value, Fl T_3 w_10 0 fun n z => A106_1 v106_1 (n, z) → (Is (indexAddrV (τ 22) v106_1 a1))) ∧
          (∀ v93_1 v99_1 v101_1 v106_1 : Value, Fl T_3 w_10 0 fun n z => A106_1 v106_1 (n, z) → (LoadP CC 23 (gd (indexAddrV (τ 22) v106_1 a1)) z (Gk T_3 A109_1 n z))) ∧
          (∀ v93_1 v99_1 v101_1 v106_1 v109_1 : Value, Fl T_3 w_10 0 fun n z => (Is (nilV a0))) ∧
          (∀ v93_1 v99_1 v101_1 v106_1 v109_1 : Value, Fl T_3 w_10 0 fun n z => (Is (fieldAddrV (τ 215) 0 (gd (nilV a0))))) ∧
          (∀ v93_1 v99_1 v101_1 v106_1 v109_1 : Value, Fl T_3 w_10 0 fun n z => (Is (fieldAddrV (τ 213) 0 (gd (fieldAddrV (τ 215) 0 (gd (nilV a0))))))) ∧
          (∀ v93_1 v99_1 v101_1 v106_1 v109_1 : Value, Fl T_3 w_10 0 fun n z => (LoadP CC 22 (gd (fieldAddrV (τ 213) 0 (gd (fieldAddrV (τ 215) 0 (gd (nilV a0)))))) z (Gk T_3 A114_1 n z))) ∧
          (∀ v93_1 v99_1 v101_1 v106_1 v109_1 v114_1 : Value, Fl T_3 w_10 0 fun n z => A114_1 v114_1 (n, z) → (Is (indexAddrV (τ 22) v114_1 y66))) ∧
          (∀ v93_1 v99_1 v101_1 v106_1 v109_1 v114_1 : Value, Fl T_3 w_10 0 fun n z => A114_1 v114_1 (n, z) → (LoadP CC 23 (gd (indexAddrV (τ 22) v114_1 y66)) z (Gk T_3 A117_1 n z))) ∧
          (∀ v93_1 v99_1 v101_1 v106_1 v109_1 v114_1 v117_1 : Value, Fl T_3 w_10 0 fun n z => A101_1 v101_1 (n, z) → A106_1 v106_1 (n, z) → A109_1 v109_1 (n, z) → A114_1 v114_1 (n, z) → A117_1 v117_1 (n, z) → (CallP CC 24 [v101_1, v109_1, v117_1] z (Gk T_3 A118_1 n z))) ∧
          (∀ v93_1 v99_1 v101_1 v106_1 v109_1 v114_1 v117_1 v118_1 : Value, Fl T_3 w_10 0 fun n z => (LoadP CC 30 x9 z (Gk T_3 A119_1 n z))) ∧
          (∀ v93_1 v99_1 v101_1 v106_1 v109_1 v114_1 v117_1 v118_1 v119_1 : Value, Fl T_3 w_10 0 fun n z => (Is (nilV a0))) ∧
          (∀ v93_1 v99_1 v101_1 v106_1 v109_1 v114_1 v117_1 v118_1 v119_1 : Value, Fl T_3 w_10 0 fun n z => (Is (fieldAddrV (τ 215) 0 (gd (nilV a0))))) ∧
          (∀ v93_1 v99_1 v101_1 v106_1 v109_1 v114_1 v117_1 v118_1 v119_1 : Value, Fl T_3 w_10 0 fun n z => (Is (fieldAddrV (τ 213) 1 (gd (fieldAddrV (τ 215) 0 (gd (nilV a0))))))) ∧
          (∀ v93_1 v99_1 v101_1 v106_1 v109_1 v114_1 v117_1 v118_1 v119_1 : Value, Fl T_3 w_10 0 fun n z => (LoadP CC 23 (gd (fieldAddrV (τ 213) 1 (gd (fieldAddrV (τ 215) 0 (gd (nilV a0)))))) z (Gk T_3 A124_1 n z))) ∧
          (∀ v93_1 v99_1 v101_1 v106_1 v109_1 v114_1 v117_1 v118_1 v119_1 v124_1 : Value, Fl T_3 w_10 0 fun n z => A124_1 v124_1 (n, z) → (Is (indexAddrV (τ 23) v124_1 a1))) ∧
          (∀ v93_1 v99_1 v101_1 v106_1 v109_1 v114_1 v117_1 v118_1 v119_1 v124_1 : Value, Fl T_3 w_10 0 fun n z => A124_1 v124_1 (n, z) → (LoadP CC 30 (gd (indexAddrV (τ 23) v124_1 a1)) z (Gk T_3 A127_1 n z))) ∧
          (∀ v93_1 v99_1 v101_1 v106_1 v109_1 v114_1 v117_1 v118_1 v119_1 v124_1 v127_1 : Value, Fl T_3 w_10 0 fun n z => A101_1 v101_1 (n, z) → A106_1 v106_1 (n, z) → A109_1 v109_1 (n, z) → A114_1 v114_1 (n, z) → A117_1 v117_1 (n, z) → A118_1 v118_1 (n, z) → A119_1 v119_1 (n, z) → A124_1 v124_1 (n, z) → A127_1 v127_1 (n, z) → (CallP CC 44 [v119_1, v127_1] z (Gk T_3 A128_1 n z))) ∧
          (∀ v93_1 v99_1 v101_1 v106_1 v109_1 v114_1 v117_1 v118_1 v119_1 v124_1 v127_1 v128_1 : Value, Fl T_3 w_10 0 fun n z => (Is (nilV a0))) ∧
          (∀ v93_1 v99_1 v101_1 v106_1 v109_1 v114_1 v117_1 v118_1 v119_1 v124_1 v127_1 v128_1 : Value, Fl T_3 w_10 0 fun n z => (Is (fieldAddrV (τ 215) 0 (gd (nilV a0))))) ∧
          (∀ v93_1 v99_1 v101_1 v106_1 v109_1 v114_1 v117_1 v118_1 v119_1 v124_1 v127_1 v128_1 : Value, Fl T_3 w_10 0 fun n z => (Is (fieldAddrV (τ 213) 1 (gd (fieldAddrV (τ 215) 0 (gd (nilV a0))))))) ∧
          (∀ v93_1 v99_1 v101_1 v106_1 v109_1 v114_1 v117_1 v118_1 v119_1 v124_1 v127_1 v128_1 : Value, Fl T_3 w_10 0 fun n z => (LoadP CC 23 (gd (fieldAddrV (τ 213) 1 (gd (fieldAddrV (τ 215) 0 (gd (nilV a0)))))) z (Gk T_3 A133_1 n z))) ∧
          (∀ v93_1 v99_1 v101_1 v106_1 v109_1 v114_1 v117_1 v118_1 v119_1 v124_1 v127_1 v128_1 v133_1 : Value, Fl T_3 w_10 0 fun n z => A133_1 v133_1 (n, z) → (Is (indexAddrV (τ 23) v133_1 y66))) ∧
          (∀ v93_1 v99_1 v101_1 v106_1 v109_1 v114_1 v117_1 v118_1 v119_1 v124_1 v127_1 v128_1 v133_1 : Value, Fl T_3 w_10 0 fun n z => A133_1 v133_1 (n, z) → (LoadP CC 30 (gd (indexAddrV (τ 23) v133_1 y66)) z (Gk T_3 A136_1 n z))) ∧
          (∀ v93_1 v99_1 v101_1 v106_1 v109_1 v114_1 v117_1 v118_1 v119_1 v124_1 v127_1 v128_1 v133_1 v136_1 : Value, Fl T_3 w_10 0 fun n z => A101_1 v101_1 (n, z) → A106_1 v106_1 (n, z) → A109_1 v109_1 (n, z) → A114_1 v114_1 (n, z) → A117_1 v117_1 (n, z) → A118_1 v118_1 (n, z) → A119_1 v119_1 (n, z) → A124_1 v124_1 (n, z) → A127_1 v127_1 (n, z) → A128_1 v128_1 (n, z) → A133_1 v133_1 (n, z) → A136_1 v136_1 (n, z) → (CallP CC 41 [v128_1, v136_1] z (Gk T_3 A137_1 n z))) ∧
          (∀ v93_1 v99_1 v101_1 v106_1 v109_1 v114_1 v117_1 v118_1 v119_1 v124_1 v127_1 v128_1 v133_1 v136_1 v137_1 : Value, Fl T_3 w_10 0 fun n z => A93_1 v93_1 (n, z) → A99_1 v99_1 (n, z) → A101_1 v101_1 (n, z) → A106_1 v106_1 (n, z) → A109_1 v109_1 (n, z) → A114_1 v114_1 (n, z) → A117_1 v117_1 (n, z) → A118_1 v118_1 (n, z) → A119_1 v119_1 (n, z) → A124_1 v124_1 (n, z) → A127_1 v127_1 (n, z) → A128_1 v128_1 (n, z) → A133_1 v133_1 (n, z) → A136_1 v136_1 (n, z) → A137_1 v137_1 (n, z) → (Is (indexAddrV (τ 22) v93_1 y66))) ∧
          (∀ v93_1 v99_1 v101_1 v106_1 v109_1 v114_1 v117_1 v118_1 v119_1 v124_1 v127_1 v128_1 v133_1 v136_1 v137_1 : Value, Fl T_3 w_10 1 fun n z => n = 0 → L_3 [] z → A93_1 v93_1 (n, z) → A99_1 v99_1 (n, z) → A101_1 v101_1 (n, z) → A106_1 v106_1 (n, z) → A109_1 v109_1 (n, z) → A114_1 v114_1 (n, z) → A117_1 v117_1 (n, z) → A118_1 v118_1 (n, z) → A119_1 v119_1 (n, z) → A124_1 v124_1 (n, z) → A127_1 v127_1 (n, z) → A128_1 v128_1 (n, z) → A133_1 v133_1 (n, z) → A136_1 v136_1 (n, z) → A137_1 v137_1 (n, z) → StoreP CC 23 (gd (indexAddrV (τ 22) v93_1 y66)) v118_1 z fun y => Gl T_3 L_3 As50_1 n z [(gd (indexAddrV (τ 22) v93_1 y66))] undef y) ∧
          (∀ v93_1 v99_1 v101_1 v106_1 v109_1 v114_1 v117_1 v118_1 v119_1 v124_1 v127_1 v128_1 v133_1 v136_1 v137_1 vs50_1 : Value, Fl T_3 w_10 1 fun n z => A93_1 v93_1 (n, z) → A99_1 v99_1 (n, z) → A101_1 v101_1 (n, z) → A106_1 v106_1 (n, z) → A109_1 v109_1 (n, z) → A114_1 v114_1 (n, z) → A117_1 v117_1 (n, z) → A118_1 v118_1 (n, z) → A119_1 v119_1 (n, z) → A124_1 v124_1 (n, z) → A127_1 v127_1 (n, z) → A128_1 v128_1 (n, z) → A133_1 v133_1 (n, z) → A136_1 v136_1 (n, z) → A137_1 v137_1 (n, z) → As50_1 vs50_1 (n, z) → (Is (indexAddrV (τ 23) v99_1 y66))) ∧
          (∀ v93_1 v99_1 v101_1 v106_1 v109_1 v114_1 v117_1 v118_1 v119_1 v124_1 v127_1 v128_1 v133_1 v136_1 v137_1 vs50_1 : Value, Fl T_3 w_10 2 fun n z => n = 1 → L_3 [(gd (indexAddrV (τ 22) v93_1 y66))] z → A93_1 v93_1 (n, z) → A99_1 v99_1 (n, z) → A101_1 v101_1 (n, z) → A106_1 v106_1 (n, z) → A109_1 v109_1 (n, z) → A114_1 v114_1 (n, z) → A117_1 v117_1 (n, z) → A118_1 v118_1 (n, z) → A119_1 v119_1 (n, z) → A124_1 v124_1 (n, z) → A127_1 v127_1 (n, z) → A128_1 v128_1 (n, z) → A133_1 v133_1 (n, z) → A136_1 v136_1 (n, z) → A137_1 v137_1 (n, z) → As50_1 vs50_1 (n, z) → StoreP CC 30 (gd (indexAddrV (τ 23) v99_1 y66)) v137_1 z fun y => Gl T_3 L_3 As52_1 n z [(gd (indexAddrV (τ 22) v93_1 y66)), (gd (indexAddrV (τ 23) v99_1 y66))] undef y) ∧
          ∀ v93_1 v99_1 v101_1 v106_1 v109_1 v114_1 v117_1 v118_1 v119_1 v124_1 v127_1 v128_1 v133_1 v136_1 v137_1 vs50_1 vs52_1 : Value, ∀ (h_4 : Nat → Value) (w_14 : World), T_3 (0, w_10) (2, w_14) → A93_1 v93_1 (2, w_14) → A99_1 v99_1 (2, w_14) → A101_1 v101_1 (2, w_14) → A106_1 v106_1 (2, w_14) → A109_1 v109_1 (2, w_14) → A114_1 v114_1 (2, w_14) → A117_1 v117_1 (2, w_14) → A118_1 v118_1 (2, w_14) → A119_1 v119_1 (2, w_14) → A124_1 v124_1 (2, w_14) → A127_1 v127_1 (2, w_14) → A128_1 v128_1 (2, w_14) → A133_1 v133_1 (2, w_14) → A136_1 v136_1 (2, w_14) → A137_1 v137_1 (2, w_14) → As50_1 vs50_1 (2, w_14) → As52_1 vs52_1 (2, w_14) → L_3 [(gd (indexAddrV (τ 22) v93_1 y66)), (gd (indexAddrV (τ 23) v99_1 y66))] w_14 → 
          ∃ x140_2, binV (.int .i64) .add y66 (.int .i64 1) = some x140_2 ∧
          I x140_2 w_14 ∧ μ x140_2 w_14 < μ y66 w_4) (
          ∃ x140_3, binV (.int .i64) .add y66 (.int .i64 1) = some x140_3 ∧
          I x140_3 w_10 ∧ μ x140_3 w_10 < μ y66 w_4))) (
      ∃ x142, nilV a0 = some x142 ∧
      ∃ x143, fieldAddrV (τ 215) 0 x142 = some x143 ∧
      ∃ x144, fieldAddrV (τ 213) 2 x143 = some x144 ∧
      LoadP CC 67 x144 w_4 fun x145 w_15 =>
      ∃ x148, indexAddrV (τ 67) x145 a1 = some x148 ∧
      StoreP CC 3 x148 a2 w_15 fun w_16 =>
      ∃ x150, nilV a0 = some x150 ∧
      ∃ x151, fieldAddrV (τ 215) 3 x150 = some x151 ∧
      LoadP CC 3 x151 w_16 fun x152 w_17 =>
      ∃ x153, binV (.int .i64) .add x152 (.int .i64 1) = some x153 ∧
      ∃ x154, nilV a0 = some x154 ∧
      ∃ x155, fieldAddrV (τ 215) 3 x154 = some x155 ∧
      StoreP CC 3 x155 x153 w_17 fun w_18 =>
      R (.tuple #[]) w_18)
theorem V201_eq (a0 a1 a2 : Value) (w : World) (R : Value → World → Prop) : V201 a0 a1 a2 w R = FnP CC { keep := fun | 3 => [66] | _ => [], lin := fun | 0 => [17] | 1 => [33, 35] | 7 => [50, 52] | 6 => [1000000] | _ => [] } Tryz.f201 [a0, a1, a2] w R := by kernel_rfl
theorem call201 {a0 a1 a2 : Value} {w : World} {R : Value → World → Prop} (h : V201 a0 a1 a2 w R) : CallP CC 201 [a0, a1, a2] w R :=
  call_of_vc CC.ok _ Tryz.func201 (V201_eq a0 a1 a2 w R ▸ h)
def V202 (a0 a1 a2 : Value) (w : World) (R : Value → World → Prop) : Prop :=
  BoxP CC 210 a1 w fun x4 w_1 =>
  AllocP CC 30 w_1 fun x6 w_2 =>
  ∃ x11, fieldAddrV (τ 210) 0 x4 = some x11 ∧
  LoadP CC 114 x11 w_2 fun x12 w_3 =>
  callV CC x12 [a2] w_3 fun x14 w_4 =>
  CallP CC 151 [x14] w_4 fun x15 w_5 =>
  AllocP CC 30 w_5 fun x7 w_6 =>
  StoreP CC 30 x7 x15 w_6 fun w_7 =>
  ∃ x17, nilV a0 = some x17 ∧
  ∃ x18, fieldAddrV (τ 215) 0 x17 = some x18 ∧
  ∃ x19, fieldAddrV (τ 213) 2 x18 = some x19 ∧
  LoadP CC 67 x19 w_7 fun x20 w_8 =>
  ∃ x21, lenV (τ 67) x20 = some x21 ∧
  ∃ (I : Value → World → Prop) (μ : Value → World → Nat), I (.int .i64 0) w_8 ∧
  ∀ y22 : Value, ∀ (h : Nat → Value) (w_9 : World), I y22 w_9 →
    ∃ x23, binV (.int .i64) .lss y22 x21 = some x23 ∧
    CondP x23 (
      ∃ x25, indexAddrV (τ 67) x20 y22 = some x25 ∧
      LoadP CC 3 x25 w_9 fun x26 w_10 =>
      ∃ x27, fieldAddrV (τ 210) 0 x4 = some x27 ∧
      LoadP CC 114 x27 w_10 fun x28 w_11 =>
      callV CC x28 [x26] w_11 fun x30 w_12 =>
      AllocP CC 30 w_12 fun x10 w_13 =>
      StoreP CC 30 x10 x30 w_13 fun w_14 =>
      LoadP CC 30 x10 w_14 fun x31 w_15 =>
      CallP CC 42 [x31] w_15 fun x32 w_16 =>
      ∃ x33, binV (.int .i64) .neq x32 (.int .i64 0) = some x33 ∧
      CondP x33 (
        ∃ x36, nilV a0 = some x36 ∧
        ∃ x37, fieldAddrV (τ 215) 0 x36 = some x37 ∧
        ∃ x38, fieldAddrV (τ 213) 0 x37 = some x38 ∧
        LoadP CC 22 x38 w_16 fun x39 w_17 =>
        ∃ x41, indexAddrV (τ 22) x39 y22 = some x41 ∧
        LoadP CC 23 x41 w_17 fun x42 w_18 =>
        ∃ x44, indexAddrV (τ 23) x42 a2 = some x44 ∧
        LoadP CC 30 x44 w_18 fun x45 w_19 =>
        CallP CC 42 [x45] w_19 fun x46 w_20 =>
        ∃ x47, binV (.int .i64) .neq x46 (.int .i64 0) = some x47 ∧
        ∃ x48, pickV x33 x47 (.bool false) = some x48 ∧
        CondP x48 (
          ∃ (T : Nat × World → Nat × World → Prop) (L : List Value → World → Prop), Hg T ∧ Ht T ∧ Hl L w_20 ∧
          ∃ A49 A50 A55 A58 A61 A62 A63 As15 : Value → Nat × World → Prop,
          (Fl T w_20 0 fun n z => (LoadP CC 30 x7 z (Gk T A49 n z))) ∧
          (∀ v49 : Value, Fl T w_20 0 fun n z => (LoadP CC 30 x10 z (Gk T A50 n z))) ∧
          (∀ v49 v50 : Value, Fl T w_20 0 fun n z => (Is (nilV a0))) ∧
          (∀ v49 v50 : Value, Fl T w_20 0 fun n z => (Is (fieldAddrV (τ 215) 0 (gd (nilV a0))))) ∧
          (∀ v49 v50 : Value, Fl T w_20 0 fun n z => (Is (fieldAddrV (τ 213) 0 (gd (fieldAddrV (τ 215) 0 (gd (nilV a0))))))) ∧
          (∀ v49 v50 : Value, Fl T w_20 0 fun n z => (LoadP CC 22 (gd (fieldAddrV (τ 213) 0 (gd (fieldAddrV (τ 215) 0 (gd (nilV a0)))))) z (Gk T A55 n z))) ∧
          (∀ v49 v50 v55 : Value, Fl T w_20 0 fun n z => A55 v55 (n, z) → (Is (indexAddrV (τ 22) v55 y22))) ∧
          (∀ v49 v50 v55 : Value, Fl T w_20 0 fun n z => A55 v55 (n, z) → (LoadP CC 23 (gd (indexAddrV (τ 22) v55 y22)) z (Gk T A58 n z))) ∧
          (∀ v49 v50 v55 v58 : Value, Fl T w_20 0 fun n z => A55 v55 (n, z) → A58 v58 (n, z) → (Is (indexAddrV (τ 23) v58 a2))) ∧
          (∀ v49 v50 v55 v58 : Value, Fl T w_20 0 fun n z => A55 v55 (n, z) → A58 v58 (n, z) → (LoadP CC 30 (gd (indexAddrV (τ 23) v58 a2)) z (Gk T A61 n z))) ∧
          (∀ v49 v50 v55 v58 v61 : Value, Fl T w_20 0 fun n z => A50 v50 (n, z) → A55 v55 (n, z) → A58 v58 (n, z) → A61 v61 (n, z) → (CallP CC 44 [v50, v61] z (Gk T A62 n z))) ∧
          (∀ v49 v50 v55 v58 v61 v62 : Value, Fl T w_20 0 fun n z => A49 v49 (n, z) → A50 v50 (n, z) → A55 v55 (n, z) → A58 v58 (n, z) → A61 v61 (n, z) → A62 v62 (n, z) → (CallP CC 41 [v49, v62] z (Gk T A63 n z))) ∧
          (∀ v49 v50 v55 v58 v61 v62 v63 : Value, Fl T w_20 1 fun n z => n = 0 → L [] z → A49 v49 (n, z) → A50 v50 (n, z) → A55 v55 (n, z) → A58 v58 (n, z) → A61 v61 (n, z) → A62 v62 (n, z) → A63 v63 (n, z) → StoreP CC 30 x7 v63 z fun y => Gl T L As15 n z [x7] undef y) ∧
          ∀ v49 v50 v55 v58 v61 v62 v63 vs15 : Value, ∀ (h_1 : Nat → Value) (w_21 : World), T (0, w_20) (1, w_21) → A49 v49 (1, w_21) → A50 v50 (1, w_21) → A55 v55 (1, w_21) → A58 v58 (1, w_21) → A61 v61 (1, w_21) → A62 v62 (1, w_21) → A63 v63 (1, w_21) → As15 vs15 (1, w_21) → L [x7] w_21 → 
          ∃ x64, binV (.int .i64) .add y22 (.int .i64 1) = some x64 ∧
          I x64 w_21 ∧ μ x64 w_21 < μ y22 w_9) (
          ∃ x64_1, binV (.int .i64) .add y22 (.int .i64 1) = some x64_1 ∧
          I x64_1 w_20 ∧ μ x64_1 w_20 < μ y22 w_9)) (
        ∃ x48_1, pickV x33 undef (.bool false) = some x48_1 ∧
        CondP x48_1 (
          ∃ (T_1 : Nat × World → Nat × World → Prop) (L_1 : List Value → World → Prop), Hg T_1 ∧ Ht T_1 ∧ Hl L_1 w_16 ∧
          ∃ A49_1 A50_1 A55_1 A58_1 A61_1 A62_1 A63_1 As15_1 : Value → Nat × World → Prop,
          (Fl T_1 w_16 0 fun n z => (LoadP CC 30 x7 z (Gk T_1 A49_1 n z))) ∧
          (∀ v49_1 : Value, Fl T_1 w_16 0 fun n z => (LoadP CC 30 x10 z (Gk T_1 A50_1 n z))) ∧
          (∀ v49_1 v50_1 : Value, Fl T_1 w_16 0 fun n z => (Is (nilV a0))) ∧
          (∀ v49_1 v50_1 : Value, Fl T_1 w_16 0 fun n z => (Is (fieldAddrV (τ 215) 0 (gd (nilV a0))))) ∧
          (∀ v49_1 v50_1 : Value, Fl T_1 w_16 0 fun n z => (Is (fieldAddrV (τ 213) 0 (gd (fieldAddrV (τ 215) 0 (gd (nilV a0))))))) ∧
          (∀ v49_1 v50_1 : Value, Fl T_1 w_16 0 fun n z => (LoadP CC 22 (gd (fieldAddrV (τ 213) 0 (gd (fieldAddrV (τ 215) 0 (gd (nilV a0)))))) z (Gk T_1 A55_1 n z))) ∧
          (∀ v49_1 v50_1 v55_1 : Value, Fl T_1 w_16 0 fun n z => A55_1 v55_1 (n, z) → (Is (indexAddrV (τ 22) v55_1 y22))) ∧
          (∀ v49_1 v50_1 v55_1 : Value, Fl T_1 w_16 0 fun n z => A55_1 v55_1 (n, z) → (LoadP CC 23 (gd (indexAddrV (τ 22) v55_1 y22)) z (Gk T_1 A58_1 n z))) ∧
          (∀ v49_1 v50_1 v55_1 v58_1 : Value, Fl T_1 w_16 0 fun n z => A55_1 v55_1 (n, z) → A58_1 v58_1 (n, z) → (Is (indexAddrV (τ 23) v58_1 a2))) ∧
          (∀ v49_1 v50_1 v55_1 v58_1 : Value, Fl T_1 w_16 0 fun n z => A55_1 v55_1 (n, z) → A58_1 v58_1 (n, z) → (LoadP CC 30 (gd (indexAddrV (τ 23) v58_1 a2)) z (Gk T_1 A61_1 n z))) ∧
          (∀ v49_1 v50_1 v55_1 v58_1 v61_1 : Value, Fl T_1 w_16 0 fun n z => A50_1 v50_1 (n, z) → A55_1 v55_1 (n, z) → A58_1 v58_1 (n, z) → A61_1 v61_1 (n, z) → (CallP CC 44 [v50_1, v61_1] z (Gk T_1 A62_1 n z))) ∧
          (∀ v49_1 v50_1 v55_1 v58_1 v61_1 v62_1 : Value, Fl T_1 w_16 0 fun n z => A49_1 v49_1 (n, z) → A50_1 v50_1 (n, z) → A55_1 v55_1 (n, z) → A58_1 v58_1 (n, z) → A61_1 v61_1 (n, z) → A62_1 v62_1 (n, z) → (CallP CC 41 [v49_1, v62_1] z (Gk T_1 A63_1 n z))) ∧
          (∀ v49_1 v50_1 v55_1 v58_1 v61_1 v62_1 v63_1 : Value, Fl T_1 w_16 1 fun n z => n = 0 → L_1 [] z → A49_1 v49_1 (n, z) → A50_1 v50_1 (n, z) → A55_1 v55_1 (n, z) → A58_1 v58_1 (n, z) → A61_1 v61_1 (n, z) → A62_1 v62_1 (n, z) → A63_1 v63_1 (n, z) → StoreP CC 30 x7 v63_1 z fun y => Gl T_1 L_1 As15_1 n z [x7] undef y) ∧
          ∀ v49_1 v50_1 v55_1 v58_1 v61_1 v62_1 v63_1 vs15_1 : Value, ∀ (h_2 : Nat → Value) (w_22 : World), T_1 (0, w_16) (1, w_22) → A49_1 v49_1 (1, w_22) → A50_1 v50_1 (1, w_22) → A55_1 v55_1 (1, w_22) → A58_1 v58_1 (1, w_22) → A61_1 v61_1 (1, w_22) → A62_1 v62_1 (1, w_22) → A63_1 v63_1 (1, w_22) → As15_1 vs15_1 (1, w_22) → L_1 [x7] w_22 → 
          ∃ x64_2, binV (.int .i64) .add y22 (.int .i64 1) = some x64_2 ∧
          I x64_2 w_22 ∧ μ x64_2 w_22 < μ y22 w_9) (
          ∃ x64_3, binV (.int .i64) .add y22 (.int .i64 1) = some x64_3 ∧
          I x64_3 w_16 ∧ μ x64_3 w_16 < μ y22 w_9))) (
      LoadP CC 30 x7 w_9 fun x65 w_23 =>
      StoreP CC 30 x6 x65 w_23 fun w_24 =>
      ∃ ad r, x6 = .pointer (some ad) ∧ (loadVar 30 ad).run CC.P w_24 = .ok r w_24 ∧
      R r w_24)
theorem V202_eq (a0 a1 a2 : Value) (w : World) (R : Value → World → Prop) : V202 a0 a1 a2 w R = FnP CC { keep := fun | 3 => [22] | _ => [], lin := fun | 7 => [15] | 6 => [1000000] | _ => [] } Tryz.f202 [a0, a1, a2] w R := by kernel_rfl
theorem call202 {a0 a1 a2 : Value} {w : World} {R : Value → World → Prop} (h : V202 a0 a1 a2 w R) : CallP CC 202 [a0, a1, a2] w R :=
  call_of_vc CC.ok _ Tryz.func202 (V202_eq a0 a1 a2 w R ▸ h)
def V203 (a0 a1 : Value) (w : World) (R : Value → World → Prop) : Prop :=
  AllocP CC 30 w fun x3 w_1 =>
  LoadP CC 3 a1 w_1 fun x5 w_2 =>
  ∃ x6, binV (.int .i64) .eql a0 x5 = some x6 ∧
  CondP x6 (
    CallP CC 36 [(.int .i64 (-1))] w_2 fun x7 w_3 =>
    StoreP CC 30 x3 x7 w_3 fun w_4 =>
    ∃ ad r, x3 = .pointer (some ad) ∧ (loadVar 30 ad).run CC.P w_4 = .ok r w_4 ∧
    R r w_4) (
    ∃ x8, buildV (τ 30) [] = some x8 ∧
    StoreP CC 30 x3 x8 w_2 fun w_5 =>
    ∃ ad_1 r_1, x3 = .pointer (some ad_1) ∧ (loadVar 30 ad_1).run CC.P w_5 = .ok r_1 w_5 ∧
    R r_1 w_5)
theorem V203_eq (a0 a1 : Value) (w : World) (R : Value → World → Prop) : V203 a0 a1 w R = FnP CC { keep := fun _ => [], lin := fun _ => [] } Tryz.f203 [a0, a1] w R := by kernel_rfl
theorem call203 {a0 a1 : Value} {w : World} {R : Value → World → Prop} (h : V203 a0 a1 w R) : CallP CC 203 [a0, a1] w R :=
  call_of_vc CC.ok _ Tryz.func203 (V203_eq a0 a1 w R ▸ h)
def V204 (a0 a1 : Value) (w : World) (R : Value → World → Prop) : Prop :=
  AllocP CC 30 w fun x3 w_1 =>
  ∃ x5, fieldAddrV (τ 206) 2 a1 = some x5 ∧
  LoadP CC 3 x5 w_1 fun x6 w_2 =>
  ∃ x7, binV (.int .i64) .eql a0 x6 = some x7 ∧
  CondP x7 (
    CallP CC 36 [(.int .i64 (-1))] w_2 fun x8 w_3 =>
    StoreP CC 30 x3 x8 w_3 fun w_4 =>
    ∃ ad r, x3 = .pointer (some ad) ∧ (loadVar 30 ad).run CC.P w_4 = .ok r w_4 ∧
    R r w_4) (
    ∃ x9, buildV (τ 30) [] = some x9 ∧
    StoreP CC 30 x3 x9 w_2 fun w_5 =>
    ∃ ad_1 r_1, x3 = .pointer (some ad_1) ∧ (loadVar 30 ad_1).run CC.P w_5 = .ok r_1 w_5 ∧
    R r_1 w_5)
theorem V204_eq (a0 a1 : Value) (w : World) (R : Value → World → Prop) : V204 a0 a1 w R = FnP CC { keep := fun _ => [], lin := fun _ => [] } Tryz.f204 [a0, a1] w R := by kernel_rfl
theorem call204 {a0 a1 : Value} {w : World} {R : Value → World → Prop} (h : V204 a0 a1 w R) : CallP CC 204 [a0, a1] w R :=
  call_of_vc CC.ok _ Tryz.func204 (V204_eq a0 a1 w R ▸ h)
def V205 (a0 a1 : Value) (w : World) (R : Value → World → Prop) : Prop :=
  AllocP CC 30 w fun x3 w_1 =>
  LoadP CC 23 a1 w_1 fun x5 w_2 =>
  ∃ x6, lenV (τ 23) x5 = some x6 ∧
  ∃ x7, binV (.int .i64) .geq a0 x6 = some x7 ∧
  CondP x7 (
    ∃ x8, buildV (τ 30) [] = some x8 ∧
    StoreP CC 30 x3 x8 w_2 fun w_3 =>
    ∃ ad r, x3 = .pointer (some ad) ∧ (loadVar 30 ad).run CC.P w_3 = .ok r w_3 ∧
    R r w_3) (
    LoadP CC 23 a1 w_2 fun x9 w_4 =>
    ∃ x11, indexAddrV (τ 23) x9 a0 = some x11 ∧
    LoadP CC 30 x11 w_4 fun x12 w_5 =>
    StoreP CC 30 x3 x12 w_5 fun w_6 =>
    ∃ ad_1 r_1, x3 = .pointer (some ad_1) ∧ (loadVar 30 ad_1).run CC.P w_6 = .ok r_1 w_6 ∧
    R r_1 w_6)
theorem V205_eq (a0 a1 : Value) (w : World) (R : Value → World → Prop) : V205 a0 a1 w R = FnP CC { keep := fun _ => [], lin := fun _ => [] } Tryz.f205 [a0, a1] w R := by kernel_rfl
theorem call205 {a0 a1 : Value} {w : World} {R : Value → World → Prop} (h : V205 a0 a1 w R) : CallP CC 205 [a0, a1] w R :=
  call_of_vc CC.ok _ Tryz.func205 (V205_eq a0 a1 w R ▸ h)
def V206 (a0 a1 : Value) (w : World) (R : Value → World → Prop) : Prop :=
  AllocP CC 30 w fun x3 w_1 =>
  LoadP CC 3 a1 w_1 fun x5 w_2 =>
  ∃ x6, binV (.int .i64) .eql a0 x5 = some x6 ∧
  CondP x6 (
    CallP CC 36 [(.int .i64 (-1))] w_2 fun x7 w_3 =>
    StoreP CC 30 x3 x7 w_3 fun w_4 =>
    ∃ ad r, x3 = .pointer (some ad) ∧ (loadVar 30 ad).run CC.P w_4 = .ok r w_4 ∧
    R r w_4) (
    ∃ x8, buildV (τ 30) [] = some x8 ∧
    StoreP CC 30 x3 x8 w_2 fun w_5 =>
    ∃ ad_1 r_1, x3 = .pointer (some ad_1) ∧ (loadVar 30 ad_1).run CC.P w_5 = .ok r_1 w_5 ∧
    R r_1 w_5)
theorem V206_eq (a0 a1 : Value) (w : World) (R : Value → World → Prop) : V206 a0 a1 w R = FnP CC { keep := fun _ => [], lin := fun _ => [] } Tryz.f206 [a0, a1] w R := by kernel_rfl
theorem call206 {a0 a1 : Value} {w : World} {R : Value → World → Prop} (h : V206 a0 a1 w R) : CallP CC 206 [a0, a1] w R :=
  call_of_vc CC.ok _ Tryz.func206 (V206_eq a0 a1 w R ▸ h)
def V207 (a0 a1 : Value) (w : World) (R : Value → World → Prop) : Prop :=
  BoxP CC 202 a0 w fun x2 w_1 =>
  BoxP CC 210 a1 w_1 fun x3 w_2 =>
  ∃ x5, some (Value.func (.func 222) #[] #[x2, x3]) = some x5 ∧
  R x5 w_2
theorem V207_eq (a0 a1 : Value) (w : World) (R : Value → World → Prop) : V207 a0 a1 w R = FnP CC { keep := fun _ => [], lin := fun _ => [] } Tryz.f207 [a0, a1] w R := by kernel_rfl
theorem call207 {a0 a1 : Value} {w : World} {R : Value → World → Prop} (h : V207 a0 a1 w R) : CallP CC 207 [a0, a1] w R :=
  call_of_vc CC.ok _ Tryz.func207 (V207_eq a0 a1 w R ▸ h)
def V208 (a0 a1 : Value) (w : World) (R : Value → World → Prop) : Prop :=
  AllocP CC 30 w fun x6 w_1 =>
  ∃ x12, nilV a0 = some x12 ∧
  ∃ x13, fieldAddrV (τ 215) 0 x12 = some x13 ∧
  ∃ x14, fieldAddrV (τ 213) 0 x13 = some x14 ∧
  LoadP CC 22 x14 w_1 fun x15 w_2 =>
  ∃ x16, lenV (τ 22) x15 = some x16 ∧
  ∃ (I : Value → Value → World → Prop) (μ : Value → Value → World → Nat), I (.int .i64 (-1)) (.int .i64 0) w_2 ∧
  ∀ y5 : Value, ∀ y17 : Value, ∀ (h : Nat → Value) (w_3 : World), I y5 y17 w_3 →
    ∃ x18, binV (.int .i64) .lss y17 x16 = some x18 ∧
    CondP x18 (
      ∃ x21, nilV a0 = some x21 ∧
      ∃ x22, fieldAddrV (τ 215) 0 x21 = some x22 ∧
      ∃ x23, fieldAddrV (τ 213) 0 x22 = some x23 ∧
      LoadP CC 22 x23 w_3 fun x24 w_4 =>
      ∃ x26, indexAddrV (τ 22) x24 y17 = some x26 ∧
      LoadP CC 23 x26 w_4 fun x27 w_5 =>
      ∃ x29, indexAddrV (τ 23) x27 a1 = some x29 ∧
      LoadP CC 30 x29 w_5 fun x30 w_6 =>
      CallP CC 42 [x30] w_6 fun x31 w_7 =>
      ∃ x32, binV (.int .i64) .leq x31 (.int .i64 0) = some x32 ∧
      CondP x32 (
        ∃ x90, binV (.int .i64) .add y17 (.int .i64 1) = some x90 ∧
        I y5 x90 w_7 ∧ μ y5 x90 w_7 < μ y5 y17 w_3) (
        ∃ (T : Nat × World → Nat × World → Prop) (L : List Value → World → Prop), Hg T ∧ Ht T ∧ Hl L w_7 ∧
        ∃ A38 A41 A46 A49 A52 A53 A8 As24 : Value → Nat × World → Prop,
        (Fl T w_7 0 fun n z => (Is (nilV a0))) ∧
        (Fl T w_7 0 fun n z => (Is (fieldAddrV (τ 215) 0 (gd (nilV a0))))) ∧
        (Fl T w_7 0 fun n z => (Is (fieldAddrV (τ 213) 1 (gd (fieldAddrV (τ 215) 0 (gd (nilV a0))))))) ∧
        (Fl T w_7 0 fun n z => (LoadP CC 23 (gd (fieldAddrV (τ 213) 1 (gd (fieldAddrV (τ 215) 0 (gd (nilV a0)))))) z (Gk T A38 n z))) ∧
        (∀ v38 : Value, Fl T w_7 0 fun n z => A38 v38 (n, z) → (Is (indexAddrV (τ 23) v38 y17))) ∧
        (∀ v38 : Value, Fl T w_7 0 fun n z => A38 v38 (n, z) → (LoadP CC 30 (gd (indexAddrV (τ 23) v38 y17)) z (Gk T A41 n z))) ∧
        (∀ v38 v41 : Value, Fl T w_7 0 fun n z => (Is (nilV a0))) ∧
        (∀ v38 v41 : Value, Fl T w_7 0 fun n z => (Is (fieldAddrV (τ 215) 0 (gd (nilV a0))))) ∧
        (∀ v38 v41 : Value, Fl T w_7 0 fun n z => (Is (fieldAddrV (τ 213) 0 (gd (fieldAddrV (τ 215) 0 (gd (nilV a0))))))) ∧
        (∀ v38 v41 : Value, Fl T w_7 0 fun n z => (LoadP CC 22 (gd (fieldAddrV (τ 213) 0 (gd (fieldAddrV (τ 215) 0 (gd (nilV a0)))))) z (Gk T A46 n z))) ∧
        (∀ v38 v41 v46 : Value, Fl T w_7 0 fun n z => A46 v46 (n, z) → (Is (indexAddrV (τ 22) v46 y17))) ∧
        (∀ v38 v41 v46 : Value, Fl T w_7 0 fun n z => A46 v46 (n, z) → (LoadP CC 23 (gd (indexAddrV (τ 22) v46 y17)) z (Gk T A49 n z))) ∧
        (∀ v38 v41 v46 v49 : Value, Fl T w_7 0 fun n z => A46 v46 (n, z) → A49 v49 (n, z) → (Is (indexAddrV (τ 23) v49 a1))) ∧
        (∀ v38 v41 v46 v49 : Value, Fl T w_7 0 fun n z => A46 v46 (n, z) → A49 v49 (n, z) → (LoadP CC 30 (gd (indexAddrV (τ 23) v49 a1)) z (Gk T A52 n z))) ∧
        (∀ v38 v41 v46 v49 v52 : Value, Fl T w_7 0 fun n z => A38 v38 (n, z) → A41 v41 (n, z) → A46 v46 (n, z) → A49 v49 (n, z) → A52 v52 (n, z) → (CallP CC 195 [v41, v52] z (Gk T A53 n z))) ∧
        (∀ v38 v41 v46 v49 v52 v53 : Value, Fl T w_7 0 fun n z => A38 v38 (n, z) → A41 v41 (n, z) → A46 v46 (n, z) → A49 v49 (n, z) → A52 v52 (n, z) → A53 v53 (n, z) → (Is (extrV v53 0))) ∧
        (∀ v38 v41 v46 v49 v52 v53 : Value, Fl T w_7 1 fun n z => A38 v38 (n, z) → A41 v41 (n, z) → A46 v46 (n, z) → A49 v49 (n, z) → A52 v52 (n, z) → A53 v53 (n, z) → (Is (extrV v53 1))) ∧
        (∀ v38 v41 v46 v49 v52 v53 : Value, Fl T w_7 0 fun n z => (AllocP CC 30 z (Gk T A8 n z))) ∧
        (∀ v38 v41 v46 v49 v52 v53 v8 : Value, Fl T w_7 1 fun n z => n = 0 → L [] z → A38 v38 (n, z) → A41 v41 (n, z) → A46 v46 (n, z) → A49 v49 (n, z) → A52 v52 (n, z) → A53 v53 (n, z) → A8 v8 (n, z) → StoreP CC 30 v8 (gd (extrV v53 0)) z fun y => Gl T L As24 n z [v8] undef y) ∧
        ∀ v38 v41 v46 v49 v52 v53 v8 vs24 : Value, ∀ (h_1 : Nat → Value) (w_8 : World), T (0, w_7) (1, w_8) → A38 v38 (1, w_8) → A41 v41 (1, w_8) → A46 v46 (1, w_8) → A49 v49 (1, w_8) → A52 v52 (1, w_8) → A53 v53 (1, w_8) → A8 v8 (1, w_8) → As24 vs24 (1, w_8) → L [v8] w_8 → 
        LoadP CC 30 v8 w_8 fun x56 w_9 =>
        LoadP CC 30 x6 w_9 fun x57 w_10 =>
        CallP CC 33 [x56, x57] w_10 fun x58 w_11 =>
        ∃ A73 A76 A81 A84 : Value → World → Prop,
        (Fw Grow w_11 fun z => (Is (binV (.int .i64) .lss y5 (.int .i64 0)))) ∧
        (Fw Grow w_11 fun z => ((gd (binV (.int .i64) .lss y5 (.int .i64 0))) = .bool false → (Is (binV (.int .i64) .lss x58 (.int .i64 0))))) ∧
        (Fw Grow w_11 fun z => (Is (pickV (gd (binV (.int .i64) .lss y5 (.int .i64 0))) (.bool true) (gd (binV (.int .i64) .lss x58 (.int .i64 0)))))) ∧
        (Fw Grow w_11 fun z => ((gd (pickV (gd (binV (.int .i64) .lss y5 (.int .i64 0))) (.bool true) (gd (binV (.int .i64) .lss x58 (.int .i64 0))))) = .bool false → (Is (binV (.int .i64) .eql x58 (.int .i64 0))))) ∧
        (Fw Grow w_11 fun z => ((gd (pickV (gd (binV (.int .i64) .lss y5 (.int .i64 0))) (.bool true) (gd (binV (.int .i64) .lss x58 (.int .i64 0))))) = .bool false → ((gd (binV (.int .i64) .eql x58 (.int .i64 0))) = .bool true → (Is (nilV a0))))) ∧
        (Fw Grow w_11 fun z => ((gd (pickV (gd (binV (.int .i64) .lss y5 (.int .i64 0))) (.bool true) (gd (binV (.int .i64) .lss x58 (.int .i64 0))))) = .bool false → ((gd (binV (.int .i64) .eql x58 (.int .i64 0))) = .bool true → (Is (fieldAddrV (τ 215) 0 (gd (nilV a0))))))) ∧
        (Fw Grow w_11 fun z => ((gd (pickV (gd (binV (.int .i64) .lss y5 (.int .i64 0))) (.bool true) (gd (binV (.int .i64) .lss x58 (.int .i64 0))))) = .bool false → ((gd (binV (.int .i64) .eql x58 (.int .i64 0))) = .bool true → (Is (fieldAddrV (τ 213) 2 (gd (fieldAddrV (τ 215) 0 (gd (nilV a0))))))))) ∧
        (Fw Grow w_11 fun z => ((gd (pickV (gd (binV (.int .i64) .lss y5 (.int .i64 0))) (.bool true) (gd (binV (.int .i64) .lss x58 (.int .i64 0))))) = .bool false → ((gd (binV (.int .i64) .eql x58 (.int .i64 0))) = .bool true → (LoadP CC 67 (gd (fieldAddrV (τ 213) 2 (gd (fieldAddrV (τ 215) 0 (gd (nilV a0)))))) z (Gw Grow A73 z))))) ∧
        (∀ v73 : Value, Fw Grow w_11 fun z => ((gd (pickV (gd (binV (.int .i64) .lss y5 (.int .i64 0))) (.bool true) (gd (binV (.int .i64) .lss x58 (.int .i64 0))))) = .bool false → ((gd (binV (.int .i64) .eql x58 (.int .i64 0))) = .bool true → A73 v73 z)) → ((gd (pickV (gd (binV (.int .i64) .lss y5 (.int .i64 0))) (.bool true) (gd (binV (.int .i64) .lss x58 (.int .i64 0))))) = .bool false → ((gd (binV (.int .i64) .eql x58 (.int .i64 0))) = .bool true → (Is (indexAddrV (τ 67) v73 y17))))) ∧
        (∀ v73 : Value, Fw Grow w_11 fun z => ((gd (pickV (gd (binV (.int .i64) .lss y5 (.int .i64 0))) (.bool true) (gd (binV (.int .i64) .lss x58 (.int .i64 0))))) = .bool false → ((gd (binV (.int .i64) .eql x58 (.int .i64 0))) = .bool true → A73 v73 z)) → ((gd (pickV (gd (binV (.int .i64) .lss y5 (.int .i64 0))) (.bool true) (gd (binV (.int .i64) .lss x58 (.int .i64 0))))) = .bool false → ((gd (binV (.int .i64) .eql x58 (.int .i64 0))) = .bool true → (LoadP CC 3 (gd (indexAddrV (τ 67) v73 y17)) z (Gw Grow A76 z))))) ∧
        (∀ v73 v76 : Value, Fw Grow w_11 fun z => ((gd (pickV (gd (binV (.int .i64) .lss y5 (.int .i64 0))) (.bool true) (gd (binV (.int .i64) .lss x58 (.int .i64 0))))) = .bool false → ((gd (binV (.int .i64) .eql x58 (.int .i64 0))) = .bool true → (Is (nilV a0))))) ∧
        (∀ v73 v76 : Value, Fw Grow w_11 fun z => ((gd (pickV (gd (binV (.int .i64) .lss y5 (.int .i64 0))) (.bool true) (gd (binV (.int .i64) .lss x58 (.int .i64 0))))) = .bool false → ((gd (binV (.int .i64) .eql x58 (.int .i64 0))) = .bool true → (Is (fieldAddrV (τ 215) 0 (gd (nilV a0))))))) ∧
        (∀ v73 v76 : Value, Fw Grow w_11 fun z => ((gd (pickV (gd (binV (.int .i64) .lss y5 (.int .i64 0))) (.bool true) (gd (binV (.int .i64) .lss x58 (.int .i64 0))))) = .bool false → ((gd (binV (.int .i64) .eql x58 (.int .i64 0))) = .bool true → (Is (fieldAddrV (τ 213) 2 (gd (fieldAddrV (τ 215) 0 (gd (nilV a0))))))))) ∧
        (∀ v73 v76 : Value, Fw Grow w_11 fun z => ((gd (pickV (gd (binV (.int .i64) .lss y5 (.int .i64 0))) (.bool true) (gd (binV (.int .i64) .lss x58 (.int .i64 0))))) = .bool false → ((gd (binV (.int .i64) .eql x58 (.int .i64 0))) = .bool true → (LoadP CC 67 (gd (fieldAddrV (τ 213) 2 (gd (fieldAddrV (τ 215) 0 (gd (nilV a0)))))) z (Gw Grow A81 z))))) ∧
        (∀ v73 v76 v81 : Value, Fw Grow w_11 fun z => ((gd (pickV (gd (binV (.int .i64) .lss y5 (.int .i64 0))) (.bool true) (gd (binV (.int .i64) .lss x58 (.int .i64 0))))) = .bool false → ((gd (binV (.int .i64) .eql x58 (.int .i64 0))) = .bool true → A81 v81 z)) → ((gd (pickV (gd (binV (.int .i64) .lss y5 (.int .i64 0))) (.bool true) (gd (binV (.int .i64) .lss x58 (.int .i64 0))))) = .bool false → ((gd (binV (.int .i64) .eql x58 (.int .i64 0))) = .bool true → (Is (indexAddrV (τ 67) v81 y5))))) ∧
        (∀ v73 v76 v81 : Value, Fw Grow w_11 fun z => ((gd (pickV (gd (binV (.int .i64) .lss y5 (.int .i64 0))) (.bool true) (gd (binV (.int .i64) .lss x58 (.int .i64 0))))) = .bool false → ((gd (binV (.int .i64) .eql x58 (.int .i64 0))) = .bool true → A81 v81 z)) → ((gd (pickV (gd (binV (.int .i64) .lss y5 (.int .i64 0))) (.bool true) (gd (binV (.int .i64) .lss x58 (.int .i64 0))))) = .bool false → ((gd (binV (.int .i64) .eql x58 (.int .i64 0))) = .bool true → (LoadP CC 3 (gd (indexAddrV (τ 67) v81 y5)) z (Gw Grow A84 z))))) ∧
        (∀ v73 v76 v81 v84 : Value, Fw Grow w_11 fun z => ((gd (pickV (gd (binV (.int .i64) .lss y5 (.int .i64 0))) (.bool true) (gd (binV (.int .i64) .lss x58 (.int .i64 0))))) = .bool false → ((gd (binV (.int .i64) .eql x58 (.int .i64 0))) = .bool true → A73 v73 z)) → ((gd (pickV (gd (binV (.int .i64) .lss y5 (.int .i64 0))) (.bool true) (gd (binV (.int .i64) .lss x58 (.int .i64 0))))) = .bool false → ((gd (binV (.int .i64) .eql x58 (.int .i64 0))) = .bool true → A76 v76 z)) → ((gd (pickV (gd (binV (.int .i64) .lss y5 (.int .i64 0))) (.bool true) (gd (binV (.int .i64) .lss x58 (.int .i64 0))))) = .bool false → ((gd (binV (.int .i64) .eql x58 (.int .i64 0))) = .bool true → A81 v81 z)) → ((gd (pickV (gd (binV (.int .i64) .lss y5 (.int .i64 0))) (.bool true) (gd (binV (.int .i64) .lss x58 (.int .i64 0))))) = .bool false → ((gd (binV (.int .i64) .eql x58 (.int .i64 0))) = .bool true → A84 v84 z)) → ((gd (pickV (gd (binV (.int .i64) .lss y5 (.int .i64 0))) (.bool true) (gd (binV (.int .i64) .lss x58 (.int .i64 0))))) = .bool false → ((gd (binV (.int .i64) .eql x58 (.int .i64 0))) = .bool true → (Is (binV (.int .i64) .lss v76 v84))))) ∧
        (∀ v73 v76 v81 v84 : Value, Fw Grow w_11 fun z => ((gd (pickV (gd (binV (.int .i64) .lss y5 (.int .i64 0))) (.bool true) (gd (binV (.int .i64) .lss x58 (.int .i64 0))))) = .bool false → ((gd (binV (.int .i64) .eql x58 (.int .i64 0))) = .bool true → A73 v73 z)) → ((gd (pickV (gd (binV (.int .i64) .lss y5 (.int .i64 0))) (.bool true) (gd (binV (.int .i64) .lss x58 (.int .i64 0))))) = .bool false → ((gd (binV (.int .i64) .eql x58 (.int .i64 0))) = .bool true → A76 v76 z)) → ((gd (pickV (gd (binV (.int .i64) .lss y5 (.int .i64 0))) (.bool true) (gd (binV (.int .i64) .lss x58 (.int .i64 0))))) = .bool false → ((gd (binV (.int .i64) .eql x58 (.int .i64 0))) = .bool true → A81 v81 z)) → ((gd (pickV (gd (binV (.int .i64) .lss y5 (.int .i64 0))) (.bool true) (gd (binV (.int .i64) .lss x58 (.int .i64 0))))) = .bool false → ((gd (binV (.int .i64) .eql x58 (.int .i64 0))) = .bool true → A84 v84 z)) → ((gd (pickV (gd (binV (.int .i64) .lss y5 (.int .i64 0))) (.bool true) (gd (binV (.int .i64) .lss x58 (.int .i64 0))))) = .bool false → (Is (pickV (gd (binV (.int .i64) .eql x58 (.int .i64 0))) (gd (binV (.int .i64) .lss v76 v84)) (.bool false))))) ∧
        (∀ v73 v76 v81 v84 : Value, Fw Grow w_11 fun z => ((gd (pickV (gd (binV (.int .i64) .lss y5 (.int .i64 0))) (.bool true) (gd (binV (.int .i64) .lss x58 (.int .i64 0))))) = .bool false → ((gd (binV (.int .i64) .eql x58 (.int .i64 0))) = .bool true → A73 v73 z)) → ((gd (pickV (gd (binV (.int .i64) .lss y5 (.int .i64 0))) (.bool true) (gd (binV (.int .i64) .lss x58 (.int .i64 0))))) = .bool false → ((gd (binV (.int .i64) .eql x58 (.int .i64 0))) = .bool true → A76 v76 z)) → ((gd (pickV (gd (binV (.int .i64) .lss y5 (.int .i64 0))) (.bool true) (gd (binV (.int .i64) .lss x58 (.int .i64 0))))) = .bool false → ((gd (binV (.int .i64) .eql x58 (.int .i64 0))) = .bool true → A81 v81 z)) → ((gd (pickV (gd (binV (.int .i64) .lss y5 (.int .i64 0))) (.bool true) (gd (binV (.int .i64) .lss x58 (.int .i64 0))))) = .bool false → ((gd (binV (.int .i64) .eql x58 (.int .i64 0))) = .bool true → A84 v84 z)) → (Is (pickV (gd (pickV (gd (binV (.int .i64) .lss y5 (.int .i64 0))) (.bool true) (gd (binV (.int .i64) .lss x58 (.int .i64 0))))) (.bool true) (gd (pickV (gd (binV (.int .i64) .eql x58 (.int .i64 0))) (gd (binV (.int .i64) .lss v76 v84)) (.bool false)))))) ∧
        ∀ v73 v76 v81 v84 : Value, ∀ (h_2 : Nat → Value) (w_12 : World), Grow w_11 w_12 → ((gd (pickV (gd (binV (.int .i64) .lss y5 (.int .i64 0))) (.bool true) (gd (binV (.int .i64) .lss x58 (.int .i64 0))))) = .bool false → ((gd (binV (.int .i64) .eql x58 (.int .i64 0))) = .bool true → A73 v73 w_12)) → ((gd (pickV (gd (binV (.int .i64) .lss y5 (.int .i64 0))) (.bool true) (gd (binV (.int .i64) .lss x58 (.int .i64 0))))) = .bool false → ((gd (binV (.int .i64) .eql x58 (.int .i64 0))) = .bool true → A76 v76 w_12)) → ((gd (pickV (gd (binV (.int .i64) .lss y5 (.int .i64 0))) (.bool true) (gd (binV (.int .i64) .lss x58 (.int .i64 0))))) = .bool false → ((gd (binV (.int .i64) .eql x58 (.int .i64 0))) = .bool true → A81 v81 w_12)) → ((gd (pickV (gd (binV (.int .i64) .lss y5 (.int .i64 0))) (.bool true) (gd (binV (.int .i64) .lss x58 (.int .i64 0))))) = .bool false → ((gd (binV (.int .i64) .eql x58 (.int .i64 0))) = .bool true → A84 v84 w_12)) → 
        CondP (gd (pickV (gd (pickV (gd (binV (.int .i64) .lss y5 (.int .i64 0))) (.bool true) (gd (binV (.int .i64) .lss x58 (.int .i64 0))))) (.bool true) (gd (pickV (gd (binV (.int .i64) .eql x58 (.int .i64 0))) (gd (binV (.int .i64) .lss v76 v84)) (.bool false))))) (
          ∃ (T_1 : Nat × World → Nat × World → Prop) (L_1 : List Value → World → Prop), Hg T_1 ∧ Ht T_1 ∧ Hl L_1 w_12 ∧
          ∃ A89 As3 : Value → Nat × World → Prop,
          (Fl T_1 w_12 0 fun n z => (LoadP CC 30 v8 z (Gk T_1 A89 n z))) ∧
          (∀ v89 : Value, Fl T_1 w_12 1 fun n z => n = 0 → L_1 [] z → A89 v89 (n, z) → StoreP CC 30 x6 v89 z fun y => Gl T_1 L_1 As3 n z [x6] undef y) ∧
          ∀ v89 vs3 : Value, ∀ (h_3 : Nat → Value) (w_13 : World), T_1 (0, w_12) (1, w_13) → A89 v89 (1, w_13) → As3 vs3 (1, w_13) → L_1 [x6] w_13 → 
          ∃ x90_1, binV (.int .i64) .add y17 (.int .i64 1) = some x90_1 ∧
          I y17 x90_1 w_13 ∧ μ y17 x90_1 w_13 < μ y5 y17 w_3) (
          ∃ x90_2, binV (.int .i64) .add y17 (.int .i64 1) = some x90_2 ∧
          I y5 x90_2 w_12 ∧ μ y5 x90_2 w_12 < μ y5 y17 w_3))) (
      R y5 w_3)
theorem V208_eq (a0 a1 : Value) (w : World) (R : Value → World → Prop) : V208 a0 a1 w R = FnP CC { keep := fun | 4 => [5, 17] | _ => [], lin := fun | 7 => [24] | 10 => [3] | _ => [] } Tryz.f208 [a0, a1] w R := by kernel_rfl
theorem call208 {a0 a1 : Value} {w : World} {R : Value → World → Prop} (h : V208 a0 a1 w R) : CallP CC 208 [a0, a1] w R :=
  call_of_vc CC.ok _ Tryz.func208 (V208_eq a0 a1 w R ▸ h)
def V222 (y : Nat) (a0 a1 a2 : Value) (w : World) (R : Value → World → Prop) : Prop :=
  LoadP (CY y) 202 a1 w fun x5 w_1 =>
  ∃ x6, nilV x5 = some x6 ∧
  ∃ x7, fieldAddrV (τ 215) 1 x6 = some x7 ∧
  LoadP (CY y) 3 x7 w_1 fun x8 w_2 =>
  ∃ (I : Value → World → Prop) (μ : Value → World → Nat), I (.int .i64 0) w_2 ∧
  ∀ y9 : Value, ∀ (h : Nat → Value) (w_3 : World), I y9 w_3 →
    ∃ x10, binV (.int .i64) .lss y9 x8 = some x10 ∧
    CondP x10 (
      LoadP (CY y) 202 a1 w_3 fun x12 w_4 =>
      ∃ x13, nilV x12 = some x13 ∧
      ∃ x14, fieldAddrV (τ 215) 2 x13 = some x14 ∧
      LoadP (CY y) 94 x14 w_4 fun x15 w_5 =>
      ∃ x17, indexAddrV (τ 94) x15 y9 = some x17 ∧
      LoadP (CY y) 4 x17 w_5 fun x18 w_6 =>
      ∃ x19, unV .not x18 = some x19 ∧
      CondP x19 (
        LoadP (CY y) 202 a1 w_6 fun x23 w_7 =>
        LoadP (CY y) 210 a2 w_7 fun x24 w_8 =>
        CallP (CY y) 202 [x23, x24, y9] w_8 fun x26 w_9 =>
        callV (CY y) a0 [y9, x26] w_9 fun x27 w_10 =>
        ∃ x28, unV .not x27 = some x28 ∧
        ∃ x29, pickV x19 x28 (.bool false) = some x29 ∧
        CondP x29 (
          R (.tuple #[]) w_10) (
          ∃ x30, binV (.int .i64) .add y9 (.int .i64 1) = some x30 ∧
          I x30 w_10 ∧ μ x30 w_10 < μ y9 w_3)) (
        ∃ x29_1, pickV x19 undef (.bool false) = some x29_1 ∧
        CondP x29_1 (
          R (.tuple #[]) w_6) (
          ∃ x30_1, binV (.int .i64) .add y9 (.int .i64 1) = some x30_1 ∧
          I x30_1 w_6 ∧ μ x30_1 w_6 < μ y9 w_3))) (
      R (.tuple #[]) w_3)
theorem V222_eq (y : Nat) (a0 a1 a2 : Value) (w : World) (R : Value → World → Prop) : V222 y a0 a1 a2 w R = FnP (CY y) { keep := fun | 1 => [9] | _ => [], lin := fun | 3 => [1000000] | _ => [] } Tryz.f222 [a0, a1, a2] w R := by kernel_rfl
theorem call222 {y : Nat} {a0 a1 a2 : Value} {w : World} {R : Value → World → Prop} (h : V222 y a0 a1 a2 w R) : CallP (CY y) 222 [a0, a1, a2] w R :=
  call_of_vc (CY.ok y) _ Tryz.func222 (V222_eq y a0 a1 a2 w R ▸ h)
end Go.Proofs.YtaajkcngcalgoaaGreat
namespace Go.Proofs.YtaajkcngcalgoaaGreat
namespace Lx
open Go Go.Vc Go.Spx
attribute [local irreducible] Tryz.prog
structure Wf where
  g : Nat
  vm : Value
  vr : Value
  vb : Value
  vs : Value
  cols : Nat
structure Shape (cols : Nat) (s : St) : Prop where
  row : ∀ r ∈ s.m, r.length = cols
  right : s.r.length = s.m.length
  basis : s.b.length = s.m.length
  inb : ∀ k ∈ s.b, k < cols
  shut : s.s.length = cols
  lim : s.m.length ≤ 1048576 ∧ cols ≤ 1048576 ∧ s.n < 4611686018427387904
def Wk (L base : Nat) (F : Wf) (w : World) (s : St) : Prop :=
  Blk w F.g 215 [F.vm, F.vr, F.vb, .int .i64 F.cols, F.vs, .int .i64 (s.n : Nat)] ∧ MatO true L (fun k => F.vr.ownBlock ≠ some k) base w F.vm s.m ∧ VecO true L base w F.vr s.r ∧ IntO base w F.vb s.b ∧ BoolO base w F.vs s.s ∧ base ≤ F.g ∧ Shape F.cols s
def WS (F : Wf) (k : Nat) : Prop := k = F.g ∨ F.vm.ownBlock = some k ∨ F.vr.ownBlock = some k ∨ F.vb.ownBlock = some k ∨ F.vs.ownBlock = some k
section
variable {c c' d : Bool} {L M K base n : Nat} {w w' w'' : World} {v o u a b q fv : Value} {x y z : Rat} {xs ys row : List Rat} {m m' : List (List Rat)} {S P P' Q Q' : Nat → Prop} {cs vs : List Value} {s s' : St} {F : Wf} {g : Goal}
theorem Wk.blk (h : Wk L base F w s) : Blk w F.g 215 [F.vm, F.vr, F.vb, .int .i64 F.cols, F.vs, .int .i64 (s.n : Nat)] := h.1
theorem Wk.mat (h : Wk L base F w s) : MatO true L (fun k => F.vr.ownBlock ≠ some k) base w F.vm s.m := h.2.1
theorem Wk.right (h : Wk L base F w s) : VecO true L base w F.vr s.r := h.2.2.1
theorem Wk.basis (h : Wk L base F w s) : IntO base w F.vb s.b := h.2.2.2.1
theorem Wk.shut (h : Wk L base F w s) : BoolO base w F.vs s.s := h.2.2.2.2.1
theorem Wk.bs (h : Wk L base F w s) : base ≤ F.g := h.2.2.2.2.2.1
theorem Wk.shape (h : Wk L base F w s) : Shape F.cols s := h.2.2.2.2.2.2
theorem Wk.grow (h : Wk L base F w s) (hg : Grow w w') : Wk L base F w' s :=
  ⟨h.1.grow hg, h.mat.grow hg, h.right.grow hg, Vc.Own.grow h.basis hg, Vc.Own.grow h.shut hg, h.bs, h.shape⟩
theorem Wk.sys (h : Wk L base F w s) (hs : Vc.Sys n w w') : Wk L base F w' s :=
  ⟨h.1.sys hs, h.mat.sys hs, h.right.sys hs, Vc.Own.sys h.basis hs, Vc.Own.sys h.shut hs, h.bs, h.shape⟩
theorem Wk.le (h : Wk L base F w s) (hl : L ≤ M) : Wk M base F w s := ⟨h.1, h.mat.le hl, h.right.le hl, h.basis, h.shut, h.bs, h.shape⟩
theorem Wk.lt (h : Wk L base F w s) {k : Nat} (hk : WS F k) : base ≤ k ∧ k < w.heap.size := by
  rcases hk with rfl | hk | hk | hk | hk
  · exact ⟨h.bs, h.1.lt⟩
  · exact h.mat.block k hk
  · exact h.right.block k hk
  · exact Vc.Own.block h.basis k hk
  · exact Vc.Own.block h.shut k hk
def unitG (k : Nat) : Goal := fun c => if c = k then -1 else 0
theorem cu203 {g1 k col : Nat} (hb : Blk w g1 3 [.int .i64 (k : Nat)]) : CallP CC 203 [.int .i64 (col : Nat), .pointer (some ⟨g1, 0, none⟩)] w fun r w' => Grow w w' ∧ QR true 2 w' r (unitG k col) := by
  apply call203
  refine AllocP.mk ti30 fun g w1 hg1 hl hl' hb1 => LoadP.fld (hb.grow hg1) ti3 rfl (px rfl (cB (fun h => ?_) (fun h => ?_)))
  · have e : col = k := by have := beq_iff_eq.1 h; omega
    refine (q36 (n := -1) (by decide)).mono ?_
    rintro r w2 ⟨hg2, hr⟩
    refine storeR (hb1.grow hg2) rfl hr fun w3 hm3 hr3 => ?_
    obtain ⟨r, hr1, hr2⟩ := hr3.res
    exact ⟨_, _, rfl, hr1, Md.new (hg1.trans hg2) hm3 (fun k hk => by omega), by unfold unitG; rw [if_pos e]; exact hr2⟩
  · have e : ¬ col = k := fun e => by subst e; simp at h
    refine px rfl (storeR hb1 rfl (QR.zero (c := true) (L := 2) (by decide)) fun w3 hm3 hr3 => ?_)
    obtain ⟨r, hr1, hr2⟩ := hr3.res
    exact ⟨_, _, rfl, hr1, Md.new hg1 hm3 (fun k hk => by omega), by unfold unitG; rw [if_neg e]; exact hr2⟩
theorem cu204 {g1 k col : Nat} (hb : Blk w g1 206 cs) (hk : cs[5]? = some (.int .i64 (k : Nat))) : CallP CC 204 [.int .i64 (col : Nat), .pointer (some ⟨g1, 0, none⟩)] w fun r w' => Grow w w' ∧ QR true 2 w' r (unitG k col) := by
  apply call204
  refine AllocP.mk ti30 fun g w1 hg1 hl hl' hb1 => px rfl (LoadP.fld (hb.grow hg1) ti3 hk (px rfl (cB (fun h => ?_) (fun h => ?_))))
  · have e : col = k := by have := beq_iff_eq.1 h; omega
    refine (q36 (n := -1) (by decide)).mono ?_
    rintro r w2 ⟨hg2, hr⟩
    refine storeR (hb1.grow hg2) rfl hr fun w3 hm3 hr3 => ?_
    obtain ⟨r, hr1, hr2⟩ := hr3.res
    exact ⟨_, _, rfl, hr1, Md.new (hg1.trans hg2) hm3 (fun k hk => by omega), by unfold unitG; rw [if_pos e]; exact hr2⟩
  · have e : ¬ col = k := fun e => by subst e; simp at h
    refine px rfl (storeR hb1 rfl (QR.zero (c := true) (L := 2) (by decide)) fun w3 hm3 hr3 => ?_)
    obtain ⟨r, hr1, hr2⟩ := hr3.res
    exact ⟨_, _, rfl, hr1, Md.new hg1 hm3 (fun k hk => by omega), by unfold unitG; rw [if_neg e]; exact hr2⟩
theorem cu206 {g1 k col : Nat} (hb : Blk w g1 3 [.int .i64 (k : Nat)]) : CallP CC 206 [.int .i64 (col : Nat), .pointer (some ⟨g1, 0, none⟩)] w fun r w' => Grow w w' ∧ QR true 2 w' r (unitG k col) := by
  apply call206
  refine AllocP.mk ti30 fun g w1 hg1 hl hl' hb1 => LoadP.fld (hb.grow hg1) ti3 rfl (px rfl (cB (fun h => ?_) (fun h => ?_)))
  · have e : col = k := by have := beq_iff_eq.1 h; omega
    refine (q36 (n := -1) (by decide)).mono ?_
    rintro r w2 ⟨hg2, hr⟩
    refine storeR (hb1.grow hg2) rfl hr fun w3 hm3 hr3 => ?_
    obtain ⟨r, hr1, hr2⟩ := hr3.res
    exact ⟨_, _, rfl, hr1, Md.new (hg1.trans hg2) hm3 (fun k hk => by omega), by unfold unitG; rw [if_pos e]; exact hr2⟩
  · have e : ¬ col = k := fun e => by subst e; simp at h
    refine px rfl (storeR hb1 rfl (QR.zero (c := true) (L := 2) (by decide)) fun w3 hm3 hr3 => ?_)
    obtain ⟨r, hr1, hr2⟩ := hr3.res
    exact ⟨_, _, rfl, hr1, Md.new hg1 hm3 (fun k hk => by omega), by unfold unitG; rw [if_neg e]; exact hr2⟩
theorem cg205 {g1 col : Nat} (hb : Blk w g1 23 [u]) (hu : Vec true L P w u row) (hL : 2 ≤ L) : CallP CC 205 [.int .i64 (col : Nat), .pointer (some ⟨g1, 0, none⟩)] w fun r w' => Grow w w' ∧ QR true L w' r (goalRow row col) := by
  apply call205
  refine AllocP.mk ti30 fun g w1 hg1 hl hl' hb1 => LoadP.fld (hb.grow hg1) ti23 rfl (px hu.len (px rfl (cD (fun h => ?_) (fun h => ?_))))
  · refine px rfl (storeR hb1 rfl (QR.zero (c := true) (L := L) (by omega)) fun w3 hm3 hr3 => ?_)
    obtain ⟨r, hr1, hr2⟩ := hr3.res
    exact ⟨_, _, rfl, hr1, Md.new hg1 hm3 (fun k hk => by omega), by unfold goalRow; rw [qat_none (by omega)]; exact hr2⟩
  · have hc : col < row.length := by omega
    obtain ⟨ad, had⟩ := hu.idx (k := .i64) hc
    refine LoadP.fld (hb.grow hg1) ti23 rfl (px had ((hu.grow hg1).load had (qat_get hc) fun r hr => storeR hb1 rfl hr fun w3 hm3 hr3 => ?_))
    obtain ⟨r, hr1, hr2⟩ := hr3.res
    exact ⟨_, _, rfl, hr1, Md.new hg1 hm3 (fun k hk => by omega), hr2⟩
def GoalV (L : Nat) (P : Nat → Prop) (w : World) (fv : Value) (g : Goal) : Prop :=
  (∃ (f g1 k : Nat), (f = 203 ∨ f = 206) ∧ fv = .func (.func f) #[] #[.pointer (some ⟨g1, 0, none⟩)] ∧ Blk w g1 3 [.int .i64 (k : Nat)] ∧ P g1 ∧ g = unitG k) ∨
  (∃ (g1 : Nat) (u : Value) (row : List Rat), fv = .func (.func 205) #[] #[.pointer (some ⟨g1, 0, none⟩)] ∧ Blk w g1 23 [u] ∧ Vec true L P w u row ∧ P g1 ∧ g = goalRow row) ∨
  (∃ (g1 k : Nat) (cs : List Value), fv = .func (.func 204) #[] #[.pointer (some ⟨g1, 0, none⟩)] ∧ Blk w g1 206 cs ∧ cs[5]? = some (.int .i64 (k : Nat)) ∧ P g1 ∧ g = unitG k)
theorem GoalV.grow (h : GoalV L P w fv g) (hg : Grow w w') : GoalV L P w' fv g := by
  rcases h with ⟨f, g1, k, hf, h1, h2, h3⟩ | ⟨g1, u, row, h1, h2, h3, h4⟩ | ⟨g1, k, cs, h1, h2, h3⟩
  · exact .inl ⟨f, g1, k, hf, h1, h2.grow hg, h3⟩
  · exact .inr (.inl ⟨g1, u, row, h1, h2.grow hg, h3.grow hg, h4⟩)
  · exact .inr (.inr ⟨g1, k, cs, h1, h2.grow hg, h3⟩)
theorem GoalV.sys (h : GoalV L P w fv g) (hg : Vc.Sys n w w') : GoalV L P w' fv g := by
  rcases h with ⟨f, g1, k, hf, h1, h2, h3⟩ | ⟨g1, u, row, h1, h2, h3, h4⟩ | ⟨g1, k, cs, h1, h2, h3⟩
  · exact .inl ⟨f, g1, k, hf, h1, h2.sys hg, h3⟩
  · exact .inr (.inl ⟨g1, u, row, h1, h2.sys hg, h3.sys hg, h4⟩)
  · exact .inr (.inr ⟨g1, k, cs, h1, h2.sys hg, h3⟩)
theorem GoalV.md (h : GoalV L P w fv g) (hm : Md S w w') (hd : ∀ k, P k → ¬ S k) : GoalV L P w' fv g := by
  rcases h with ⟨f, g1, k, hf, h1, h2, h3, h4⟩ | ⟨g1, u, row, h1, h2, h3, h4, h5⟩ | ⟨g1, k, cs, h1, h2, h3, h4, h5⟩
  · exact .inl ⟨f, g1, k, hf, h1, h2.md hm (hd _ h3), h3, h4⟩
  · exact .inr (.inl ⟨g1, u, row, h1, h2.md hm (hd _ h4), h3.md hm hd, h4, h5⟩)
  · exact .inr (.inr ⟨g1, k, cs, h1, h2.md hm (hd _ h4), h3, h4, h5⟩)
theorem GoalV.one (h : GoalV L P w fv g) : fv.oneCell' = true := by
  rcases h with ⟨f, g1, k, hf, rfl, _⟩ | ⟨g1, u, row, rfl, _⟩ | ⟨g1, k, cs, rfl, _⟩ <;> rfl
theorem GoalV.call (h : GoalV L P w fv g) (hL : 2 ≤ L) (col : Nat) : callV CC fv [.int .i64 (col : Nat)] w fun r w' => Grow w w' ∧ QR true L w' r (g col) := by
  rcases h with ⟨f, g1, k, hf, rfl, h2, h3, rfl⟩ | ⟨g1, u, row, rfl, h2, h3, h4, rfl⟩ | ⟨g1, k, cs, rfl, h2, h3, h4, rfl⟩
  · rcases hf with rfl | rfl
    · exact callV.func (cap := #[.pointer (some ⟨g1, 0, none⟩)]) rfl ((cu203 h2).mono fun r w' ⟨h1, h2⟩ => ⟨h1, h2.le hL⟩)
    · exact callV.func (cap := #[.pointer (some ⟨g1, 0, none⟩)]) rfl ((cu206 h2).mono fun r w' ⟨h1, h2⟩ => ⟨h1, h2.le hL⟩)
  · exact callV.func (cap := #[.pointer (some ⟨g1, 0, none⟩)]) rfl (cg205 h2 h3 hL)
  · exact callV.func (cap := #[.pointer (some ⟨g1, 0, none⟩)]) rfl ((cu204 h2 h3).mono fun r w' ⟨h1, h2⟩ => ⟨h1, h2.le hL⟩)
end
end Lx
end Go.Proofs.YtaajkcngcalgoaaGreat
namespace Go.Proofs.YtaajkcngcalgoaaGreat
namespace Lx
open Go Go.Vc Go.Spx
attribute [local irreducible] Tryz.prog
section
variable {c c' d : Bool} {L M K base n : Nat} {w w' w'' : World} {v o u a b q fv : Value} {x y z : Rat} {xs ys row : List Rat} {m m' : List (List Rat)} {S P P' Q Q' : Nat → Prop} {cs vs : List Value} {s s' : St} {F : Wf} {g : Goal}
theorem costAcc_snoc (g : Goal) (col : Nat) : ∀ (b1 : List Nat) (m1 : List (List Rat)) (acc : Rat) (k : Nat) (row : List Rat), b1.length = m1.length →
    costAcc g col acc (b1 ++ [k]) (m1 ++ [row]) = if g k ≠ 0 ∧ qat row col ≠ 0 then costAcc g col acc b1 m1 + g k * qat row col else costAcc g col acc b1 m1
  | [], [], acc, k, row, _ => by simp [costAcc]
  | _ :: b1, _ :: m1, acc, k, row, h => by
    simp only [List.cons_append, costAcc]
    exact costAcc_snoc g col b1 m1 _ k row (by simpa using h)
  | [], _ :: _, _, _, _, h => by simp at h
  | _ :: _, [], _, _, _, h => by simp at h
theorem cost_step {i : Nat} (hs : Shape F.cols s) (hi : i < s.m.length) {col : Nat} :
    costAcc g col (- g col) (s.b.take (i + 1)) (s.m.take (i + 1)) = if g (s.b.getD i 0) ≠ 0 ∧ qat (Spx.rowAt s.m i) col ≠ 0 then costAcc g col (- g col) (s.b.take i) (s.m.take i) + g (s.b.getD i 0) * qat (Spx.rowAt s.m i) col else costAcc g col (- g col) (s.b.take i) (s.m.take i) := by
  rw [take_snoc (b_get (by rw [hs.basis]; exact hi)), take_snoc (rowAt_get hi), costAcc_snoc _ _ _ _ _ _ _ (by simp [hs.basis])]
theorem c202 {col : Nat} (hw : Wk L base F w s) (hgv : GoalV L P w fv g) (hc : col < F.cols) (h1 : 2 ≤ L) (h2 : L + (s.m.length + 1) * (2 * L + 1) ≤ 268435456) :
    CallP CC 202 [.pointer (some ⟨F.g, 0, none⟩), .agg #[fv], .int .i64 (col : Nat)] w fun r w' => Grow w w' ∧ QR true (L + s.m.length * (2 * L + 1)) w' r (cost g col s) := by
  have hsh := hw.shape
  have hlm := hsh.lim
  have hKs : ∀ i, i ≤ s.m.length → L + i * (2 * L + 1) ≤ 268435456 := fun i hi => by
    have : i * (2 * L + 1) ≤ (s.m.length + 1) * (2 * L + 1) := Nat.mul_le_mul_right _ (by omega)
    omega
  have hL2 : L ≤ 268435456 := by have := hKs 0 (by omega); omega
  apply call202
  refine BoxP.mk fun g4 w1 hg1 hl4 hl4' hb4 => AllocP.mk ti30 fun g6 w2 hg2 hl6 hl6' hb6 => ?_
  have hb4 : Blk w1 g4 210 [fv] := by simpa [Value.cells] using hb4
  have s1 := hg1.size
  have s2 := hg2.size
  refine px rfl (LoadP.fld (o := 0) (hb4.grow hg2) ti114 rfl ?_)
  refine callV_mono ((hgv.grow (hg1.trans hg2)).call h1 col) ?_
  rintro r w3 ⟨hg3, hr3⟩
  refine (q151 hr3 h1 hL2).mono ?_
  rintro r w4 ⟨hg4, hr4⟩
  refine AllocP.mk ti30 fun g7 w5 hg5 hl7 hl7' hb7 => storeR hb7 rfl (hr4.grow hg5) fun w6 hm6 hr6 => ?_
  have hg24 := hg3.trans hg4
  have s24 := hg24.size
  have s5 := hg5.size
  have hg26 : Grow w2 w6 := Md.new (hg24.trans hg5) hm6 fun k hk => by omega
  have hg06 := (hg1.trans hg2).trans hg26
  have hw6 := hw.grow hg06
  have hgv6 := hgv.grow hg06
  have hb46 := (hb4.grow hg2).grow hg26
  have hb66 := hb6.grow hg26
  have s26 := hg26.size
  refine px rfl (px rfl (px rfl (LoadP.fld (o := 2) hw6.blk ti67 rfl (px hw6.basis.len ?_))))
  refine ⟨fun v w' => ∃ i : Nat, v = .int .i64 i ∧ i ≤ s.m.length ∧ Md (fun k => w2.heap.size ≤ k) w6 w' ∧ Wk L base F w' s ∧ GoalV L P w' fv g ∧ Blk w' g4 210 [fv] ∧ Blk w' g6 30 zeroQ ∧ ResR true (L + i * (2 * L + 1)) w' g7 (costAcc g col (- g col) (s.b.take i) (s.m.take i)) ∧ g7 < w'.heap.size, fun v _ => s.m.length - (vint v).toNat,
    ⟨0, rfl, by omega, Md.refl _, hw6, hgv6, hb46, hb66, by simpa [costAcc] using hr6, by have := hr6; obtain ⟨_, _, hb, _⟩ := hr6; exact hb.lt⟩, ?_⟩
  rintro _ - w7 ⟨i, rfl, hi, hm7, hw7, hgv7, hb47, hb67, hr7, hl77⟩
  have s7 := hm7.size
  have hgW : ∀ {w8 : World}, Md (fun k => w2.heap.size ≤ k) w6 w8 → Grow w w8 := fun hm => Md.new hg06 (hm.mono fun k hk => hk) fun k hk => by omega
  refine px rfl (cD (fun hlt => ?_) (fun hge => ?_))
  · have hlt' : i < s.m.length := by rw [← hsh.basis]; omega
    have hib : i < s.b.length := by rw [hsh.basis]; exact hlt'
    obtain ⟨gb, hgb, hidb⟩ := hw7.basis.idx (k := .i64) hib
    refine px hidb (hw7.basis.load (C := CC) rfl hgb hib (px rfl (LoadP.fld (o := 0) hb47 ti114 rfl ?_)))
    refine callV_mono (hgv7.call h1 _) ?_
    rintro r w8 ⟨hg8, hr8⟩
    refine AllocP.mk ti30 fun g10 w9 hg9 hl10 hl10' hb10 => storeR hb10 rfl (hr8.grow hg9) fun w10 hm10 hr10 => hr10.load fun r hr => (q42 hr h1).mono ?_
    rintro _ w11 ⟨hg11, rfl⟩
    have s8 := hg8.size
    have hg710 : Grow w7 w10 := Md.new (hg8.trans hg9) hm10 fun k hk => by omega
    have hg711 := hg710.trans hg11
    have hw11 := hw7.grow hg711
    have s711 := hg711.size
    -- where nothing is added
    have keep : ∀ {w12 : World}, Grow w7 w12 → ¬ (g (s.b.getD i 0) ≠ 0 ∧ qat (Spx.rowAt s.m i) col ≠ 0) →
        ∃ x64, binV (.int .i64) .add (.int .i64 (i : Int)) (.int .i64 1) = some x64 ∧
          (∃ j : Nat, x64 = .int .i64 j ∧ j ≤ s.m.length ∧ Md (fun k => w2.heap.size ≤ k) w6 w12 ∧ Wk L base F w12 s ∧ GoalV L P w12 fv g ∧ Blk w12 g4 210 [fv] ∧ Blk w12 g6 30 zeroQ ∧ ResR true (L + j * (2 * L + 1)) w12 g7 (costAcc g col (- g col) (s.b.take j) (s.m.take j)) ∧ g7 < w12.heap.size) ∧
          s.m.length - (vint x64).toNat < s.m.length - (vint (.int .i64 (i : Int))).toNat := by
      intro w12 hg12 hno
      refine pi rfl (by omega) ⟨⟨i + 1, by simp, by omega, hm7.trans (Md.grow hg12), hw7.grow hg12, hgv7.grow hg12, hb47.grow hg12, hb67.grow hg12, ?_, by have := hg12.size; omega⟩, by simp only [vint_int]; omega⟩
      rw [cost_step hsh hlt', if_neg hno]
      obtain ⟨cs, e1, e2, e3⟩ := hr7.grow hg12
      exact ⟨cs, e1, e2, e3.le (by rw [Nat.add_mul]; omega)⟩
    refine px rfl (cB (fun hne => ?_) (fun he => ?_))
    · have hg0 : g (s.b.getD i 0) ≠ 0 := sgnT hne
      obtain ⟨gm, hgm, hidm⟩ := hw11.mat.idx (k := .i64) hlt'
      refine px rfl (px rfl (px rfl (LoadP.fld (o := 0) hw11.blk ti22 rfl (px hidm (hw11.mat.load (C := CC) rfl hgm hlt' fun ur hur => ?_)))))
      have hrl : (Spx.rowAt s.m i).length = F.cols := hsh.row _ (rowAt_mem hlt')
      have hcl : col < (Spx.rowAt s.m i).length := by omega
      obtain ⟨ad, had⟩ := hur.idx (k := .i64) hcl
      refine px had (hur.load had (qat_get hcl) fun re hre => (q42 hre h1).mono ?_)
      rintro _ w12 ⟨hg12, rfl⟩
      have hg712 := hg711.trans hg12
      have hw12 := hw7.grow hg712
      refine px rfl ?_
      rw [hne]
      refine px rfl (cB (fun hne2 => ?_) (fun he2 => ?_))
      · have hq0 : qat (Spx.rowAt s.m i) col ≠ 0 := sgnT hne2
        have hr12 := hr7.grow hg712
        have hr1012 := (hr10.grow hg11).grow hg12
        have hur12 := hur.grow hg12
        obtain ⟨gm2, hgm2, hidm2⟩ := hw12.mat.idx (k := .i64) hlt'
        have hrow : Vec true L (fun k => F.vr.ownBlock ≠ some k) w12 ur (Spx.rowAt s.m i) := hur12
        have hKi := hKs i (by omega)
        have hKi1 := hKs (i + 1) (by omega)
        have e : L + i * (2 * L + 1) + (L + L) + 1 = L + (i + 1) * (2 * L + 1) := by rw [Nat.add_mul]; omega
        refine ⟨PhS (· = g7), fun l w' => match l with | [] => True | _ => Md (· = g7) w12 w' ∧ ResR true (L + (i + 1) * (2 * L + 1)) w' g7 (costAcc g col (- g col) (s.b.take (i + 1)) (s.m.take (i + 1))), PhS.grow _, PhS.trans _, fun _ _ => trivial,
          fun v s' => QR true (L + i * (2 * L + 1)) s'.2 v (costAcc g col (- g col) (s.b.take i) (s.m.take i)), fun v s' => QR true L s'.2 v (g (s.b.getD i 0)), fun v _ => v = F.vm, fun v s' => s'.1 = 0 → Vec true L (fun k => F.vr.ownBlock ≠ some k) s'.2 v (Spx.rowAt s.m i),
          fun v s' => QR true L s'.2 v (qat (Spx.rowAt s.m i) col), fun v s' => QR true (L + L) s'.2 v (g (s.b.getD i 0) * qat (Spx.rowAt s.m i) col), fun v s' => QR true (L + (i + 1) * (2 * L + 1)) s'.2 v (costAcc g col (- g col) (s.b.take (i + 1)) (s.m.take (i + 1))), fun _ _ => True, ?_, ?_, ?_, ?_, ?_, ?_, ?_, ?_, ?_, ?_, ?_, ?_, ?_, ?_⟩
        · intro n w13 hn ht
          obtain ⟨rfl, hg⟩ := ht.z hn
          exact (hr12.grow hg).load fun r hr => ⟨Grow.refl _, fun m w14 ht => hr.md ht.md⟩
        · intro _ n w13 hn ht
          obtain ⟨rfl, hg⟩ := ht.z hn
          exact (hr1012.grow hg).load fun r hr => ⟨Grow.refl _, fun m w14 ht => hr.md ht.md⟩
        · exact fun _ _ _ _ _ _ => ⟨_, rfl⟩
        · exact fun _ _ _ _ _ _ => ⟨_, rfl⟩
        · exact fun _ _ _ _ _ _ => ⟨_, rfl⟩
        · intro _ _ n w13 hn ht
          obtain ⟨rfl, hg⟩ := ht.z hn
          exact LoadP.fld (o := 0) (hw12.grow hg).blk ti22 rfl ⟨Grow.refl _, fun _ _ _ => rfl⟩
        · rintro _ _ _ n w13 hn ht rfl
          exact ⟨_, hidm2⟩
        · rintro _ _ v55 n w13 hn ht e55
          obtain ⟨rfl, hg⟩ := ht.z hn
          rw [e55]
          have hidm2' : indexAddrV (tyOf tyTab 22) F.vm (.int .i64 (i : Nat)) = _ := hidm2
          rw [hidm2']
          exact (hw12.grow hg).mat.load (C := CC) rfl hgm2 hlt' fun u hu => ⟨Grow.refl _, fun m w14 ht hm => hu.grow (ht.z (Nat.le_of_eq hm)).2⟩
        · rintro _ _ _ v58 n w13 hn ht _ h58
          obtain ⟨rfl, hg⟩ := ht.z hn
          exact (h58 rfl).idx hcl
        · rintro _ _ _ v58 n w13 hn ht _ h58
          obtain ⟨rfl, hg⟩ := ht.z hn
          obtain ⟨ad2, had2⟩ := (h58 rfl).idx (k := .i64) hcl
          have had2' : indexAddrV (tyOf tyTab 23) v58 (.int .i64 (col : Nat)) = _ := had2
          rw [had2']
          exact (h58 rfl).load had2 (qat_get hcl) fun r hr => ⟨Grow.refl _, fun m w14 ht => hr.md ht.md⟩
        · intro _ _ _ _ _ n w13 hn ht h50 _ _ h61
          exact fg (q44 h50 h61 h1 hL2 h1 hL2) fun r w5 m w6 hr ht => hr.md ht.md
        · intro _ _ _ _ _ _ n w13 hn ht h49 _ _ _ _ h62
          refine fg (q41 h49 h62 (by omega) (by omega) (by omega) (by omega)) fun r w5 m w6 hr ht => ?_
          rw [cost_step hsh hlt', if_pos ⟨hg0, hq0⟩, ← e]
          exact hr.md ht.md
        · rintro _ _ _ _ _ _ v63 n w13 hn ht rfl _ _ _ _ _ _ _ h63
          have hg := ht.z0
          exact (hr12.grow hg).store h63 fun w14 hm14 hr14 => ⟨PhS.next hm14, fun _ _ _ => trivial, fun w15 hg15 => ⟨((Md.grow hg).trans hm14).trans (Md.grow hg15), hr14.grow hg15⟩⟩
        · rintro _ _ _ _ _ _ _ _ _ w13 ht _ _ _ _ _ _ _ _ ⟨hm13, hr13⟩
          have s712 := hg712.size
          have hm13' : Md (fun k => w2.heap.size ≤ k) w12 w13 := hm13.mono fun k hk => by omega
          have hgg : Grow w2 w13 := Md.new hg26 ((hm7.trans (Md.grow hg712)).trans hm13') fun k hk => hk
          refine pi rfl (by omega) ⟨⟨i + 1, by simp, by omega, (hm7.trans (Md.grow hg712)).trans hm13', (hw.grow (hg1.trans hg2)).grow hgg, (hgv.grow (hg1.trans hg2)).grow hgg, (hb4.grow hg2).grow hgg, hb6.grow hgg, hr13, by have := hm13.size; omega⟩, by simp only [vint_int]; omega⟩
      · have he2' : ¬ qat (Spx.rowAt s.m i) col ≠ 0 := sgnF he2
        exact keep hg712 fun h => he2' h.2
    · have he' : ¬ g (s.b.getD i 0) ≠ 0 := sgnF he
      rw [he]
      exact px rfl (cF rfl (keep hg711 fun h => he' h.1))
  · have : i = s.m.length := by rw [← hsh.basis] at hi ⊢; omega
    subst this
    refine hr7.load fun r hr => storeR hb67 rfl hr fun w8 hm8 hr8 => ?_
    obtain ⟨r, hr1, hr2⟩ := hr8.res
    refine ⟨_, _, rfl, hr1, ?_, ?_⟩
    · exact Md.new hg1 (((Md.grow (hg2.trans hg26)).trans (hm7.mono (S' := fun k => w1.heap.size ≤ k) fun k hk => by omega)).trans (hm8.mono fun k hk => by omega)) fun k hk => by omega
    · have e1 : s.b.take s.m.length = s.b := by rw [List.take_of_length_le (by rw [hsh.basis]; exact Nat.le_refl _)]
      have e2 : s.m.take s.m.length = s.m := by rw [List.take_of_length_le (Nat.le_refl _)]
      rw [e1, e2] at hr2
      exact hr2
end
end Lx
end Go.Proofs.YtaajkcngcalgoaaGreat
namespace Go.Proofs.YtaajkcngcalgoaaGreat
open Go Go.Vc Go.Spx
theorem vsgn_nonneg {x : Rat} : 0 ≤ vsgn x ↔ 0 ≤ x := by
  unfold vsgn
  rw [← Rat.num_nonneg]
  constructor
  · intro h
    rcases Int.lt_trichotomy x.num 0 with h' | h' | h'
    · rw [Int.sign_eq_neg_one_of_neg h'] at h; omega
    · omega
    · omega
  · intro h
    rcases Int.lt_trichotomy x.num 0 with h' | h' | h'
    · omega
    · rw [h']; simp
    · rw [Int.sign_eq_one_of_pos h']; omega
theorem vsgn_neg {x : Rat} : vsgn x < 0 ↔ x < 0 := by
  rw [← Rat.not_le, ← vsgn_nonneg]; omega
theorem vsgn_zero {x : Rat} : vsgn x = 0 ↔ x = 0 := by
  unfold vsgn; rw [Int.sign_eq_zero_iff_zero, Rat.num_eq_zero]
theorem vsgn_pos {x : Rat} : 0 < vsgn x ↔ 0 < x := by
  have h1 := vsgn_nonneg (x := x)
  have h2 := vsgn_zero (x := x)
  constructor
  · intro h
    have h3 := h1.1 (by omega)
    have h4 : x ≠ 0 := fun e => by rw [h2.2 e] at h; omega
    grind
  · intro h
    have h3 : 0 ≤ vsgn x := h1.2 (by grind)
    have h4 : vsgn x ≠ 0 := fun e => by rw [h2.1 e] at h; exact absurd h (by grind)
    omega
theorem vsgn_le {x : Rat} : vsgn x ≤ 0 ↔ x ≤ 0 := by
  have := vsgn_pos (x := x)
  constructor
  · intro h; have : ¬ 0 < x := fun h' => by have := this.2 h'; omega
    grind
  · intro h; have : ¬ 0 < vsgn x := fun h' => by have := this.1 h'; grind
    omega
theorem vsgn_sub_neg {x y : Rat} : vsgn (x - y) < 0 ↔ x < y := by
  rw [vsgn_neg]; constructor <;> intro h <;> grind
end Go.Proofs.YtaajkcngcalgoaaGreat
namespace Go.Proofs.YtaajkcngcalgoaaGreat
namespace Lx
open Go Go.Vc Go.Spx
attribute [local irreducible] Tryz.prog
section
variable {c c' d : Bool} {L M K base n : Nat} {w w' w'' : World} {v o u a b q fv : Value} {x y z : Rat} {xs ys row : List Rat} {m m' : List (List Rat)} {S P P' Q Q' : Nat → Prop} {cs vs : List Value} {s s' : St} {F : Wf} {g : Goal}
def leaveStep (col : Nat) (s : St) (i : Nat) (x : List Rat) (o : Option (Nat × Rat)) : Option (Nat × Rat) :=
  if qat x col ≤ 0 then o else match o with
    | none => some (i, qat s.r i / qat x col)
    | some (a, q) => if qat s.r i / qat x col < q ∨ qat s.r i / qat x col = q ∧ s.b.getD i 0 < s.b.getD a 0 then some (i, qat s.r i / qat x col) else some (a, q)
theorem leaveFrom_cons (col : Nat) (s : St) (i : Nat) (x : List Rat) (m : List (List Rat)) (o : Option (Nat × Rat)) : leaveFrom col s i (x :: m) o = leaveFrom col s (i + 1) m (leaveStep col s i x o) := by
  unfold leaveStep
  cases o <;> rfl
theorem leaveFrom_snoc (col : Nat) (s : St) : ∀ (m1 : List (List Rat)) (i : Nat) (x : List Rat) (o : Option (Nat × Rat)), leaveFrom col s i (m1 ++ [x]) o = leaveStep col s (i + m1.length) x (leaveFrom col s i m1 o)
  | [], i, x, o => by simp only [List.nil_append, leaveFrom_cons]; rfl
  | y :: m1, i, x, o => by
    simp only [List.cons_append, leaveFrom_cons]
    rw [leaveFrom_snoc col s m1 (i + 1) x]
    simp only [List.length_cons]
    congr 1; omega
def atV (o : Option (Nat × Rat)) : Int := match o with | none => -1 | some (a, _) => a
def leastV (o : Option (Nat × Rat)) : Rat := match o with | none => 0 | some (_, q) => q
theorem leave_lt (col : Nat) (s : St) : ∀ (m1 : List (List Rat)) (i : Nat) (o : Option (Nat × Rat)), (∀ a q, o = some (a, q) → a < i) → ∀ a q, leaveFrom col s i m1 o = some (a, q) → a < i + m1.length
  | [], i, o, h, a, q, e => by have := h a q e; simp; exact this
  | y :: m1, i, o, h, a, q, e => by
    rw [leaveFrom_cons] at e
    have := leave_lt col s m1 (i + 1) _ (by
      intro a q e
      unfold leaveStep at e
      split at e
      · have := h a q e; omega
      · split at e
        · cases e; omega
        · split at e
          · cases e; omega
          · cases e; have := h _ _ rfl; omega) a q e
    simp only [List.length_cons]; omega
theorem c208 {col : Nat} (hw : Wk L base F w s) (hc : col < F.cols) (h1 : 2 ≤ L) (h2 : L ≤ 134217728) :
    CallP CC 208 [.pointer (some ⟨F.g, 0, none⟩), .int .i64 (col : Nat)] w fun r w' => Grow w w' ∧ r = .int .i64 (match leave col s with | none => -1 | some i => (i : Int)) := by
  have hsh := hw.shape
  have hlm := hsh.lim
  apply call208
  refine AllocP.mk ti30 fun g6 w1 hg1 hl6 hl6' hb6 => ?_
  have hw1 := hw.grow hg1
  have s1 := hg1.size
  refine px rfl (px rfl (px rfl (LoadP.fld (o := 0) hw1.blk ti22 rfl (px (MatO.lenV' hw1.mat) ?_))))
  refine ⟨fun v5 v w' => ∃ i : Nat, v = .int .i64 i ∧ i ≤ s.m.length ∧ Md (fun k => w.heap.size ≤ k) w w' ∧ v5 = .int .i64 (atV (leaveFrom col s 0 (s.m.take i) none)) ∧ ResR true (L + L) w' g6 (leastV (leaveFrom col s 0 (s.m.take i) none)) ∧ g6 < w'.heap.size, fun _ v _ => s.m.length - (vint v).toNat,
    ⟨0, rfl, by omega, Md.grow hg1, rfl, ResR.of (cs := zeroQ) hb6 (QR.zero (by omega)), hl6'⟩, ?_⟩
  rintro _ _ - w3 ⟨i, rfl, hi, hm3, rfl, hr3, hl3⟩
  obtain ⟨ov, hov⟩ : ∃ ov, ov = leaveFrom col s 0 (s.m.take i) none := ⟨_, rfl⟩
  rw [← hov] at hr3 ⊢
  have hg3 : Grow w w3 := Md.new (Grow.refl w) hm3 fun k hk => hk
  have hw3 := hw.grow hg3
  refine px rfl (cD (fun hlt => ?_) (fun hge => ?_))
  · have hlt' : i < s.m.length := by omega
    have hrl : (Spx.rowAt s.m i).length = F.cols := hsh.row _ (rowAt_mem hlt')
    have hcl : col < (Spx.rowAt s.m i).length := by omega
    have hir : i < s.r.length := by rw [hsh.right]; exact hlt'
    have hib : i < s.b.length := by rw [hsh.basis]; exact hlt'
    obtain ⟨gm, hgm, hidm⟩ := hw3.mat.idx (k := .i64) hlt'
    obtain ⟨gr, hgr, hidr⟩ := hw3.right.idx (k := .i64) hir
    obtain ⟨gb, hgb, hidb⟩ := hw3.basis.idx (k := .i64) hib
    have hidm' : indexAddrV (tyOf tyTab 22) F.vm (.int .i64 (i : Nat)) = _ := hidm
    have hidr' : indexAddrV (tyOf tyTab 23) F.vr (.int .i64 (i : Nat)) = _ := hidr
    have hidb' : indexAddrV (tyOf tyTab 67) F.vb (.int .i64 (i : Nat)) = _ := hidb
    have estep : leaveFrom col s 0 (s.m.take (i + 1)) none = leaveStep col s i (Spx.rowAt s.m i) ov := by
      rw [take_snoc (rowAt_get hlt'), leaveFrom_snoc, hov]
      congr 1
      simp; omega
    refine px rfl (px rfl (px rfl (LoadP.fld (o := 0) hw3.blk ti22 rfl (px hidm (hw3.mat.load (C := CC) rfl hgm hlt' fun ur hur => ?_)))))
    obtain ⟨ad, had⟩ := hur.idx (k := .i64) hcl
    refine px had (hur.load had (qat_get hcl) fun re hre => (q42 hre h1).mono ?_)
    rintro _ w7 ⟨hg7, rfl⟩
    have s7 := hg7.size
    have hg07 := hg3.trans hg7
    have hr7 := hr3.grow hg7
    refine px rfl (cD (fun hle => ?_) (fun hpos => ?_))
    · have hle' : qat (Spx.rowAt s.m i) col ≤ 0 := vsgn_le.1 hle
      refine pi rfl (by omega) ⟨⟨i + 1, by simp, by omega, hm3.trans (Md.grow hg7), ?_, ?_, by omega⟩, by simp only [vint_int]; omega⟩
      · rw [estep]; unfold leaveStep; rw [if_pos hle']
      · rw [estep]; unfold leaveStep; rw [if_pos hle']; exact hr7
    · have hpos' : ¬ qat (Spx.rowAt s.m i) col ≤ 0 := fun h => hpos (vsgn_le.2 h)
      have hne : qat (Spx.rowAt s.m i) col ≠ 0 := fun e => hpos' (by rw [e]; exact Rat.le_refl)
      have hw7 := hw3.grow hg7
      refine ⟨PhS (fun k => w7.heap.size ≤ k), fun l w' => match l with
          | [v8] => Md (fun k => w7.heap.size ≤ k) w7 w' ∧ ∃ g, v8 = .pointer (some ⟨g, 0, none⟩) ∧ w7.heap.size ≤ g ∧ ResR true (L + L) w' g (qat s.r i / qat (Spx.rowAt s.m i) col)
          | _ => True, PhS.grow _, PhS.trans _, fun _ _ => trivial,
        fun v _ => v = F.vr, fun v s' => QR true L s'.2 v (qat s.r i), fun v _ => v = F.vm, fun v s' => s'.1 = 0 → Vec true L (fun k => F.vr.ownBlock ≠ some k) s'.2 v (Spx.rowAt s.m i),
        fun v s' => QR true L s'.2 v (qat (Spx.rowAt s.m i) col), fun v s' => ∃ u, v = .tuple #[u, .int .i64 0] ∧ QR true (L + L) s'.2 u (qat s.r i / qat (Spx.rowAt s.m i) col),
        fun v s' => ∃ g, v = .pointer (some ⟨g, 0, none⟩) ∧ w7.heap.size ≤ g ∧ (s'.1 = 0 → Blk s'.2 g 30 zeroQ), fun _ _ => True, ?_, ?_, ?_, ?_, ?_, ?_, ?_, ?_, ?_, ?_, ?_, ?_, ?_, ?_, ?_, ?_, ?_, ?_, ?_, ?_⟩
      · exact fun _ _ _ _ => ⟨_, rfl⟩
      · exact fun _ _ _ _ => ⟨_, rfl⟩
      · exact fun _ _ _ _ => ⟨_, rfl⟩
      · intro n w8 hn ht
        obtain ⟨rfl, hg⟩ := ht.z hn
        exact LoadP.fld (o := 1) (hw7.grow hg).blk ti23 rfl ⟨Grow.refl _, fun _ _ _ => rfl⟩
      · rintro _ n w8 hn ht rfl
        exact ⟨_, hidr'⟩
      · rintro _ n w8 hn ht e
        obtain ⟨rfl, hg⟩ := ht.z hn
        rw [e, hidr']
        exact (hw7.grow hg).right.load (C := CC) rfl hgr hir fun r hr => ⟨Grow.refl _, fun m w9 ht => hr.md ht.md⟩
      · exact fun _ _ _ _ _ _ => ⟨_, rfl⟩
      · exact fun _ _ _ _ _ _ => ⟨_, rfl⟩
      · exact fun _ _ _ _ _ _ => ⟨_, rfl⟩
      · intro _ _ n w8 hn ht
        obtain ⟨rfl, hg⟩ := ht.z hn
        exact LoadP.fld (o := 0) (hw7.grow hg).blk ti22 rfl ⟨Grow.refl _, fun _ _ _ => rfl⟩
      · rintro _ _ _ n w8 hn ht rfl
        exact ⟨_, hidm'⟩
      · rintro _ _ _ n w8 hn ht e
        obtain ⟨rfl, hg⟩ := ht.z hn
        rw [e, hidm']
        exact (hw7.grow hg).mat.load (C := CC) rfl hgm hlt' fun u hu => ⟨Grow.refl _, fun m w9 ht hm => hu.grow (ht.z (Nat.le_of_eq hm)).2⟩
      · rintro _ _ _ v49 n w8 hn ht _ h49
        obtain ⟨rfl, hg⟩ := ht.z hn
        exact (h49 rfl).idx hcl
      · rintro _ _ _ v49 n w8 hn ht _ h49
        obtain ⟨rfl, hg⟩ := ht.z hn
        obtain ⟨ad2, had2⟩ := (h49 rfl).idx (k := .i64) hcl
        have had2' : indexAddrV (tyOf tyTab 23) v49 (.int .i64 (col : Nat)) = _ := had2
        rw [had2']
        exact (h49 rfl).load had2 (qat_get hcl) fun r hr => ⟨Grow.refl _, fun m w9 ht => hr.md ht.md⟩
      · intro _ _ _ _ _ n w8 hn ht _ h41 _ _ h52
        exact fg (q195 h41 h52 hne h1 (by omega) h1 (by omega)) fun r w5 m w6 ⟨u, hu, hr⟩ ht => ⟨u, hu, hr.md ht.md⟩
      · rintro _ _ _ _ _ _ n w8 hn ht _ _ _ _ _ ⟨u, rfl, _⟩
        exact ⟨_, rfl⟩
      · rintro _ _ _ _ _ _ n w8 hn ht _ _ _ _ _ ⟨u, rfl, _⟩
        exact ⟨_, rfl⟩
      · intro _ _ _ _ _ _ n w8 hn ht
        obtain ⟨rfl, hg⟩ := ht.z hn
        exact AllocP.mk ti30 fun g w9 hg9 hl9 _ hb9 => ⟨hg9, fun m w10 ht => ⟨g, rfl, by have := hg.size; omega, fun hm => hb9.grow (ht.z (Nat.le_of_eq hm)).2⟩⟩
      · rintro _ _ _ _ _ _ _ n w8 hn ht rfl _ _ _ _ _ _ ⟨u, rfl, hu⟩ ⟨g, rfl, hgl, hb⟩
        have hg := ht.z0
        exact storeR (hb rfl) rfl hu fun w9 hm9 hr9 => ⟨PhS.next (hm9.mono fun k hk => by omega), fun _ _ _ => trivial, fun w10 hg10 => ⟨((Md.grow hg).trans (hm9.mono fun k hk => by omega)).trans (Md.grow hg10), g, rfl, hgl, hr9.grow hg10⟩⟩
      · rintro _ _ _ _ _ _ v8 _ _ w8 ht _ _ _ _ _ _ _ _ ⟨hm8, g8, rfl, hg8, hr8⟩
        have hgg7 : Grow w7 w8 := Md.new (Grow.refl w7) hm8 fun k hk => hk
        have hr68 := hr7.grow hgg7
        refine hr8.load fun r56 h56 => hr68.load fun r57 h57 => (c33 h56 h57 (by omega) (by omega) (by omega) (by omega)).mono ?_
        rintro _ w9 ⟨hg9, rfl⟩
        have hg79 := hgg7.trans hg9
        have hg09 := hg07.trans hg79
        have hw9 := hw.grow hg09
        have hr89 := hr8.grow hg9
        have hr69 := hr68.grow hg9
        have s79 := hg79.size
        -- the row is taken; it is not
        have yes : ∀ {w10 : World}, Grow w9 w10 → leaveStep col s i (Spx.rowAt s.m i) ov = some (i, qat s.r i / qat (Spx.rowAt s.m i) col) →
            ∃ (T_1 : Nat × World → Nat × World → Prop) (L_1 : List Value → World → Prop), (∀ n a b, Grow a b → T_1 (n, a) (n, b)) ∧ (∀ a b c, T_1 a b → T_1 b c → T_1 a c) ∧ (∀ w', Grow w10 w' → L_1 [] w') ∧
            ∃ A89 : Value → Nat × World → Prop, ∃ As3 : Value → Nat × World → Prop,
            (∀ n w_63, n ≤ 0 → T_1 (0, w10) (n, w_63) → (LoadP CC 30 (.pointer (some ⟨g8, 0, none⟩)) w_63 fun x89 w_64 => Grow w_63 w_64 ∧ ∀ m w'', T_1 (n, w_64) (m, w'') → A89 x89 (m, w''))) ∧
            (∀ v89 : Value, ∀ n w_65, n ≤ 1 → T_1 (0, w10) (n, w_65) → n = 0 → L_1 [] w_65 → A89 v89 (n, w_65) → StoreP CC 30 (.pointer (some ⟨g6, 0, none⟩)) v89 w_65 fun w_66 => T_1 (n, w_65) (n + 1, w_66) ∧ (∀ m w'', T_1 (n + 1, w_66) (m, w'') → As3 undef (m, w'')) ∧ ∀ w'', Grow w_66 w'' → L_1 [.pointer (some ⟨g6, 0, none⟩)] w'') ∧
            ∀ v89 : Value, ∀ vs3 : Value, ∀ (h_3 : Nat → Value) (w_67 : World), T_1 (0, w10) (1, w_67) → A89 v89 (1, w_67) → As3 vs3 (1, w_67) → L_1 [.pointer (some ⟨g6, 0, none⟩)] w_67 →
            ∃ x90_1, binV (.int .i64) .add (.int .i64 (i : Int)) (.int .i64 1) = some x90_1 ∧
              (∃ j : Nat, x90_1 = .int .i64 j ∧ j ≤ s.m.length ∧ Md (fun k => w.heap.size ≤ k) w w_67 ∧ Value.int .i64 (i : Int) = .int .i64 (atV (leaveFrom col s 0 (s.m.take j) none)) ∧ ResR true (L + L) w_67 g6 (leastV (leaveFrom col s 0 (s.m.take j) none)) ∧ g6 < w_67.heap.size) ∧
              s.m.length - (vint x90_1).toNat < s.m.length - (vint (.int .i64 (i : Int))).toNat := by
          intro w10 hg10 hst
          have s10 := hg10.size
          refine ⟨PhS (· = g6), fun l w' => match l with | [] => True | _ => Md (· = g6) w10 w' ∧ ResR true (L + L) w' g6 (qat s.r i / qat (Spx.rowAt s.m i) col), PhS.grow _, PhS.trans _, fun _ _ => trivial, fun v s' => QR true (L + L) s'.2 v (qat s.r i / qat (Spx.rowAt s.m i) col), fun _ _ => True, ?_, ?_, ?_⟩
          · intro n w11 hn ht
            obtain ⟨rfl, hg⟩ := ht.z hn
            exact ((hr89.grow hg10).grow hg).load fun r hr => ⟨Grow.refl _, fun m w12 ht => hr.md ht.md⟩
          · rintro v89 n w11 hn ht rfl _ h89
            have hg := ht.z0
            exact ((hr69.grow hg10).grow hg).store h89 fun w12 hm12 hr12 => ⟨PhS.next hm12, fun _ _ _ => trivial, fun w13 hg13 => ⟨((Md.grow hg).trans hm12).trans (Md.grow hg13), hr12.grow hg13⟩⟩
          · rintro v89 _ _ w11 ht _ _ ⟨hm11, hr11⟩
            refine pi rfl (by omega) ⟨⟨i + 1, by simp, by omega, (Md.grow (hg09.trans hg10)).trans (hm11.mono fun k hk => by omega), ?_, ?_, by have := hm11.size; omega⟩, by simp only [vint_int]; omega⟩
            · rw [estep, hst]; rfl
            · rw [estep, hst]; exact hr11
        have no : ∀ {w10 : World}, Grow w9 w10 → leaveStep col s i (Spx.rowAt s.m i) ov = ov →
            ∃ x90_1, binV (.int .i64) .add (.int .i64 (i : Int)) (.int .i64 1) = some x90_1 ∧
              (∃ j : Nat, x90_1 = .int .i64 j ∧ j ≤ s.m.length ∧ Md (fun k => w.heap.size ≤ k) w w10 ∧ Value.int .i64 (atV ov) = .int .i64 (atV (leaveFrom col s 0 (s.m.take j) none)) ∧ ResR true (L + L) w10 g6 (leastV (leaveFrom col s 0 (s.m.take j) none)) ∧ g6 < w10.heap.size) ∧
              s.m.length - (vint x90_1).toNat < s.m.length - (vint (.int .i64 (i : Int))).toNat := by
          intro w10 hg10 hst
          have s10 := hg10.size
          refine pi rfl (by omega) ⟨⟨i + 1, by simp, by omega, Md.grow (hg09.trans hg10), ?_, ?_, by omega⟩, by simp only [vint_int]; omega⟩
          · rw [estep, hst]
          · rw [estep, hst]; exact hr69.grow hg10
        have lsI : ∀ a b : Int, binV (.int .i64) .lss (.int .i64 a) (.int .i64 b) = some (.bool (decide (a < b))) := fun _ _ => rfl
        have eqI : ∀ a b : Int, binV (.int .i64) .eql (.int .i64 a) (.int .i64 b) = some (.bool (a == b)) := fun _ _ => rfl
        have p1 : ∀ x : Value, pickV (.bool false) (.bool true) x = some x := fun _ => rfl
        have p2 : ∀ x : Value, pickV (.bool true) (.bool true) x = some (.bool true) := fun _ => rfl
        have p3 : ∀ x : Value, pickV (.bool true) x (.bool false) = some x := fun _ => rfl
        have p4 : ∀ x : Value, pickV (.bool false) x (.bool false) = some (.bool false) := fun _ => rfl
        have hgw : ∀ {w10 : World}, Grow w9 w10 → Wk L base F w10 s := fun hg => hw9.grow hg
        cases hoc : ov with
        | none =>
          have eat : decide (atV (none : Option (Nat × Rat)) < 0) = true := by simp [atV]
          rw [hoc] at yes
          simp only [lsI, eat, gd, Option.getD_some, p2]
          refine ⟨fun _ _ => True, fun _ _ => True, fun _ _ => True, fun _ _ => True, ?_, ?_, ?_, ?_, ?_, ?_, ?_, ?_, ?_, ?_, ?_, ?_, ?_, ?_, ?_, ?_, ?_, ?_, ?_, ?_⟩
          any_goals ((try dsimp only [Fw, Fl]); intros; first | exact ⟨_, rfl⟩ | (rename_i h; cases h; done) | (rename_i h _; cases h; done))
          intro _ _ _ _ _ w10 hg10 _ _ _ _
          exact cT rfl (yes hg10 (by unfold leaveStep; rw [if_neg hpos']))
        | some aq =>
          obtain ⟨at_, q0⟩ := aq
          have hat : at_ < i := by
            have := leave_lt col s (s.m.take i) 0 none (by simp) at_ q0 (by rw [← hov, hoc])
            simp at this; omega
          have hab : at_ < s.b.length := by omega
          obtain ⟨gb2, hgb2, hidb2⟩ := hw9.basis.idx (k := .i64) hab
          have hidb2' : indexAddrV (tyOf tyTab 67) F.vb (.int .i64 (at_ : Nat)) = _ := hidb2
          rw [hoc] at yes no
          have eat : decide ((at_ : Int) < 0) = false := by simp
          have eatv : atV (some (at_, q0)) = (at_ : Int) := rfl
          have elv : leastV (some (at_, q0)) = q0 := rfl
          simp only [lsI, eqI, eat, gd, Option.getD_some, p1, eatv, elv] at no ⊢
          by_cases hlt2 : qat s.r i / qat (Spx.rowAt s.m i) col < q0
          · have ec : decide (vsgn (qat s.r i / qat (Spx.rowAt s.m i) col - q0) < 0) = true := decide_eq_true (vsgn_sub_neg.2 hlt2)
            simp only [ec, p2, gd, Option.getD_some]
            refine ⟨fun _ _ => True, fun _ _ => True, fun _ _ => True, fun _ _ => True, ?_, ?_, ?_, ?_, ?_, ?_, ?_, ?_, ?_, ?_, ?_, ?_, ?_, ?_, ?_, ?_, ?_, ?_, ?_, ?_⟩
            any_goals ((try dsimp only [Fw, Fl]); intros; first | exact ⟨_, rfl⟩ | (rename_i h; cases h; done) | (rename_i h _; cases h; done))
            intro _ _ _ _ _ w10 hg10 _ _ _ _
            exact cT rfl (yes hg10 (by unfold leaveStep; rw [if_neg hpos']; simp only; rw [if_pos (.inl hlt2)]))
          · have ec : decide (vsgn (qat s.r i / qat (Spx.rowAt s.m i) col - q0) < 0) = false := decide_eq_false fun h => hlt2 (vsgn_sub_neg.1 h)
            simp only [ec, p1, gd, Option.getD_some]
            by_cases heq : qat s.r i / qat (Spx.rowAt s.m i) col = q0
            · have ee : (vsgn (qat s.r i / qat (Spx.rowAt s.m i) col - q0) == 0) = true := by simpa using vsgn_eq.2 heq
              simp only [ee, gd, Option.getD_some]
              refine ⟨fun v _ => v = F.vb, fun v _ => v = .int .i64 (s.b.getD i 0 : Nat), fun v _ => v = F.vb, fun v _ => v = .int .i64 (s.b.getD at_ 0 : Nat), ?_, ?_, ?_, ?_, ?_, ?_, ?_, ?_, ?_, ?_, ?_, ?_, ?_, ?_, ?_, ?_, ?_, ?_, ?_, ?_⟩
              any_goals ((try dsimp only [Fw, Fl]); intros; exact ⟨_, rfl⟩)
              · exact fun w10 hg _ _ => LoadP.fld (o := 2) (hgw hg).blk ti67 rfl ⟨Grow.refl _, fun _ _ => rfl⟩
              · intro v73 w10 hg h73 _ _
                rw [h73 trivial trivial]; exact ⟨_, hidb'⟩
              · intro v73 w10 hg h73 _ _
                rw [h73 trivial trivial, hidb']
                exact (hgw hg).basis.load (C := CC) rfl hgb hib ⟨Grow.refl _, fun _ _ => rfl⟩
              · exact fun _ _ w10 hg _ _ => LoadP.fld (o := 2) (hgw hg).blk ti67 rfl ⟨Grow.refl _, fun _ _ => rfl⟩
              · intro _ _ v81 w10 hg h81 _ _
                rw [h81 trivial trivial]; exact ⟨_, hidb2'⟩
              · intro _ _ v81 w10 hg h81 _ _
                rw [h81 trivial trivial, hidb2']
                exact (hgw hg).basis.load (C := CC) rfl hgb2 hab ⟨Grow.refl _, fun _ _ => rfl⟩
              · intro _ v76 _ v84 w10 hg _ h76 _ h84 _ _
                rw [h76 trivial trivial, h84 trivial trivial]; exact ⟨_, rfl⟩
              · intro _ v76 _ v84 _ w10 hg _ h76 _ h84
                rw [h76 trivial trivial, h84 trivial trivial]
                simp only [lsI, p3, gd, Option.getD_some]
                refine cD (fun hb => ?_) (fun hb => ?_)
                · exact yes hg (by unfold leaveStep; rw [if_neg hpos']; simp only; rw [if_pos (.inr ⟨heq, by omega⟩)])
                · exact no hg (by unfold leaveStep; rw [if_neg hpos']; simp only; rw [if_neg]; rintro (h | ⟨_, h⟩); exact hlt2 h; omega)
            · have ee : (vsgn (qat s.r i / qat (Spx.rowAt s.m i) col - q0) == 0) = false := by
                have : vsgn (qat s.r i / qat (Spx.rowAt s.m i) col - q0) ≠ 0 := fun h => heq (vsgn_eq.1 h)
                simpa using this
              simp only [ee, p4, gd, Option.getD_some]
              refine ⟨fun _ _ => True, fun _ _ => True, fun _ _ => True, fun _ _ => True, ?_, ?_, ?_, ?_, ?_, ?_, ?_, ?_, ?_, ?_, ?_, ?_, ?_, ?_, ?_, ?_, ?_, ?_, ?_, ?_⟩
              any_goals ((try dsimp only [Fw, Fl]); intros; first | exact ⟨_, rfl⟩ | (rename_i h; cases h; done) | (rename_i h _; cases h; done))
              intro _ _ _ _ _ w10 hg10 _ _ _ _
              exact cF rfl (no hg10 (by unfold leaveStep; rw [if_neg hpos']; simp only; rw [if_neg]; rintro (h | ⟨h, _⟩); exact hlt2 h; exact heq h))
  · have : i = s.m.length := by omega
    subst this
    refine ⟨hg3, ?_⟩
    rw [List.take_of_length_le (Nat.le_refl _)] at hov
    unfold leave
    rw [← hov]
    cases ov <;> rfl
end
end Lx
end Go.Proofs.YtaajkcngcalgoaaGreat
namespace Go.Vc
open Go
theorem own_apart {w : World} {b1 b2 sz1 sz2 n1 n2 : Nat} {e1 e2 : TypeId} {v1 v2 : Value} {x1 x2 : List Value} (h1 : Own w b1 e1 sz1 v1 n1 x1) (h2 : Own w b2 e2 sz2 v2 n2 x2) (he : e1 ≠ e2) : ∀ k, v1.ownBlock = some k → v2.ownBlock ≠ some k := by
  intro k hk
  rcases h1.2 with ⟨rfl, _⟩ | ⟨g, cap, cur, rfl, hb, hgg, _⟩
  · simp [Value.ownBlock] at hk
  · simp [Value.ownBlock] at hk
    subst hk
    exact Own.ne h2 (cs := cur.toList) (by unfold Blk; simpa using hgg) he
end Go.Vc
namespace Go.Proofs.YtaajkcngcalgoaaGreat
open Go Go.Vc Go.Spx
attribute [local irreducible] Tryz.prog
section
variable {c c' d : Bool} {L M K base n : Nat} {w w' w'' : World} {v o u a b q : Value} {x y z : Rat} {xs ys row : List Rat} {m m' : List (List Rat)} {S P P' Q Q' : Nat → Prop} {cs vs : List Value}
theorem MatO.store2 {i g : Nat} {K : World → Prop} (ho : MatO c L P base w o m) (hv : Vec c L P w u row) (hg : o.ownBlock = some g) (hi : i < m.length)
    (hk : ∀ w', Md (fun g => o.ownBlock = some g) w w' → MatO c L P base w' o (m.set i row) → K w') : StoreP CC 23 (.pointer (some ⟨g, i, none⟩)) u w K := by
  have hno := ho.noB
  obtain ⟨vs, h1, h2⟩ := ho
  have hu := hv.one
  have hl := vcells_one hu
  have := Vc_store (C := CC) (K := K) ti23 h1 hg hi (v := u) (by simpa using congrArg List.length hl) (by rw [hl]; simpa using hu) (by decide) fun w' hm ho => by
    refine hk w' hm ⟨vs.set i u, ?_, (h2.set hv).md2 hm fun k _ hk => hno k hk⟩
    rw [hl] at ho
    have e : over vs (i * 1) [u] = vs.set i u := by
      unfold over
      have hlt : i < vs.length := by rw [h2.1]; exact hi
      simp only [List.length_cons, List.length_nil, Nat.zero_add, Nat.mul_one]
      rw [List.set_eq_take_append_cons_drop]; simp [hlt]
    rw [e] at ho
    simpa using ho
  simpa using this
theorem over_one {vs : List Value} {i : Nat} {u : Value} (hi : i < vs.length) : over vs (i * 1) [u] = vs.set i u := by
  unfold over
  simp only [List.length_cons, List.length_nil, Nat.zero_add, Nat.mul_one]
  rw [List.set_eq_take_append_cons_drop]; simp [hi]
theorem IntO.store {i g k : Nat} {K : World → Prop} {l : List Nat} (ho : IntO base w o l) (hg : o.ownBlock = some g) (hi : i < l.length)
    (hk : ∀ w', Md (fun g => o.ownBlock = some g) w w' → IntO base w' o (l.set i k) → K w') : StoreP CC 3 (.pointer (some ⟨g, i, none⟩)) (.int .i64 (k : Nat)) w K := by
  have := Vc_store (C := CC) (K := K) ti3 ho hg hi (v := .int .i64 (k : Nat)) rfl (by simp [Value.cells, Value.oneCell']) (by decide) fun w' hm ho' => by
    refine hk w' hm ?_
    have hc : (Value.int .i64 (k : Nat)).cells.toList = [.int .i64 (k : Nat)] := rfl
    rw [hc, over_one (by simpa using hi)] at ho'
    unfold IntO
    rw [List.map_set]; simpa using ho'
  simpa using this
theorem BoolO.store {i g : Nat} {k : Bool} {K : World → Prop} {l : List Bool} (ho : BoolO base w o l) (hg : o.ownBlock = some g) (hi : i < l.length)
    (hk : ∀ w', Md (fun g => o.ownBlock = some g) w w' → BoolO base w' o (l.set i k) → K w') : StoreP CC 4 (.pointer (some ⟨g, i, none⟩)) (.bool k) w K := by
  have := Vc_store (C := CC) (K := K) ti4 ho hg hi (v := .bool k) rfl (by simp [Value.cells, Value.oneCell']) (by decide) fun w' hm ho' => by
    refine hk w' hm ?_
    have hc : (Value.bool k).cells.toList = [.bool k] := rfl
    rw [hc, over_one (by simpa using hi)] at ho'
    unfold BoolO
    rw [List.map_set]; simpa using ho'
  simpa using this
theorem Vec.fits (h : Vec c L P w v xs) (hL : 1 ≤ L) : ∀ x ∈ xs, FitQ L x := by
  obtain ⟨cs, h1, h2⟩ := h
  intro x hx
  obtain ⟨i, hi, rfl⟩ := List.mem_iff_getElem.1 hx
  exact (h2.2 i xs[i] (List.getElem?_eq_getElem hi)).fit hL
theorem VecO.fits (h : VecO c L base w v xs) (hL : 1 ≤ L) : ∀ x ∈ xs, FitQ L x := by
  obtain ⟨cs, h1, h2⟩ := h
  intro x hx
  obtain ⟨i, hi, rfl⟩ := List.mem_iff_getElem.1 hx
  exact (h2.2 i xs[i] (List.getElem?_eq_getElem hi)).fit hL
theorem MatO.fits (h : MatO c L P base w v m) (hL : 1 ≤ L) : ∀ r ∈ m, ∀ x ∈ r, FitQ L x := by
  obtain ⟨vs, h1, h2⟩ := h
  intro r hr
  obtain ⟨i, hi, rfl⟩ := List.mem_iff_getElem.1 hr
  obtain ⟨u, _, hu⟩ := h2.2 i m[i] (List.getElem?_eq_getElem hi)
  exact hu.fits hL
theorem fitB_iff {L : Nat} {x : Rat} : fitB L x = true ↔ FitQ L x := by
  unfold fitB FitQ; simp
theorem ok_iff {L : Nat} {s : St} : s.ok L = true ↔ (∀ r ∈ s.m, ∀ x ∈ r, FitQ L x) ∧ ∀ x ∈ s.r, FitQ L x := by
  unfold St.ok
  simp only [Bool.and_eq_true, List.all_eq_true, fitB_iff]
theorem qat_mem {i : Nat} (h : i < xs.length) : qat xs i ∈ xs := List.mem_of_getElem? (qat_get h)
end
section
variable (row col : Nat) (piv : List Rat) (by_ : Rat) (s : St)
def stM (i j : Nat) : List Rat := if j = row then piv else if j < i ∧ qat (Spx.rowAt s.m j) col ≠ 0 then addScaled (- qat (Spx.rowAt s.m j) col) piv (Spx.rowAt s.m j) else Spx.rowAt s.m j
def mI (i : Nat) : List (List Rat) := (List.range s.m.length).map (stM row col piv s i)
def stR (i j : Nat) : Rat := if j = row then by_ else if j < i ∧ qat (Spx.rowAt s.m j) col ≠ 0 then (- qat (Spx.rowAt s.m j) col) * by_ + qat s.r j else qat s.r j
def rI (i : Nat) : List Rat := (List.range s.m.length).map (stR row col by_ s i)
variable {row col piv by_ s}
theorem mI_length {i : Nat} : (mI row col piv s i).length = s.m.length := by simp [mI]
theorem rI_length {i : Nat} : (rI row col by_ s i).length = s.m.length := by simp [rI]
theorem mI_get {i j : Nat} (hj : j < s.m.length) : (mI row col piv s i)[j]? = some (stM row col piv s i j) := by
  unfold mI; rw [List.getElem?_map, List.getElem?_range hj]; rfl
theorem rI_get {i j : Nat} (hj : j < s.m.length) : (rI row col by_ s i)[j]? = some (stR row col by_ s i j) := by
  unfold rI; rw [List.getElem?_map, List.getElem?_range hj]; rfl
theorem mI_row {i j : Nat} (hj : j < s.m.length) : Spx.rowAt (mI row col piv s i) j = stM row col piv s i j := by
  unfold Spx.rowAt; rw [List.getD_eq_getElem?_getD, mI_get hj]; rfl
theorem rI_at {i j : Nat} (hj : j < s.m.length) : qat (rI row col by_ s i) j = stR row col by_ s i j := by
  unfold qat; rw [List.getD_eq_getElem?_getD, rI_get hj]; rfl
theorem mI_zero : s.m.set row piv = mI row col piv s 0 := by
  apply List.ext_getElem?
  intro j
  rw [List.getElem?_set]
  by_cases hj : j < s.m.length
  · rw [mI_get hj]
    unfold stM
    by_cases e : row = j
    · subst e; simp [hj]
    · rw [if_neg e, if_neg (Ne.symm e), if_neg (by omega), rowAt_get hj]
  · rw [List.getElem?_eq_none (l := mI row col piv s 0) (by rw [mI_length]; omega)]
    by_cases e : row = j
    · subst e; simp [hj]
    · rw [if_neg e, List.getElem?_eq_none (by omega)]
theorem rI_zero (hs : s.r.length = s.m.length) : s.r.set row by_ = rI row col by_ s 0 := by
  apply List.ext_getElem?
  intro j
  rw [List.getElem?_set]
  by_cases hj : j < s.m.length
  · rw [rI_get hj]
    unfold stR
    by_cases e : row = j
    · subst e; simp [hj, hs]
    · rw [if_neg e, if_neg (Ne.symm e), if_neg (by omega), qat_get (by omega)]
  · rw [List.getElem?_eq_none (l := rI row col by_ s 0) (by rw [rI_length]; omega)]
    by_cases e : row = j
    · subst e; simp [hs, hj]
    · rw [if_neg e, List.getElem?_eq_none (by omega)]
theorem stM_ne {i j : Nat} (h : j ≠ i) : stM row col piv s (i + 1) j = stM row col piv s i j := by
  unfold stM
  have : (j < i + 1 ∧ qat (Spx.rowAt s.m j) col ≠ 0) ↔ (j < i ∧ qat (Spx.rowAt s.m j) col ≠ 0) := by constructor <;> (rintro ⟨h1, h2⟩; exact ⟨by omega, h2⟩)
  simp only [this]
theorem stR_ne {i j : Nat} (h : j ≠ i) : stR row col by_ s (i + 1) j = stR row col by_ s i j := by
  unfold stR
  have : (j < i + 1 ∧ qat (Spx.rowAt s.m j) col ≠ 0) ↔ (j < i ∧ qat (Spx.rowAt s.m j) col ≠ 0) := by constructor <;> (rintro ⟨h1, h2⟩; exact ⟨by omega, h2⟩)
  simp only [this]
theorem mI_set {i : Nat} (hi : i < s.m.length) : (mI row col piv s i).set i (stM row col piv s (i + 1) i) = mI row col piv s (i + 1) := by
  apply List.ext_getElem?
  intro j
  rw [List.getElem?_set, mI_length]
  by_cases hj : j < s.m.length
  · rw [mI_get hj, mI_get hj]
    by_cases e : i = j
    · subst e; simp [hi]
    · rw [if_neg e, stM_ne (Ne.symm e)]
  · rw [List.getElem?_eq_none (l := mI row col piv s (i + 1)) (by rw [mI_length]; omega)]
    rw [if_neg (by omega), List.getElem?_eq_none (by rw [mI_length]; omega)]
theorem rI_set {i : Nat} (hi : i < s.m.length) : (rI row col by_ s i).set i (stR row col by_ s (i + 1) i) = rI row col by_ s (i + 1) := by
  apply List.ext_getElem?
  intro j
  rw [List.getElem?_set, rI_length]
  by_cases hj : j < s.m.length
  · rw [rI_get hj, rI_get hj]
    by_cases e : i = j
    · subst e; simp [hi]
    · rw [if_neg e, stR_ne (Ne.symm e)]
  · rw [List.getElem?_eq_none (l := rI row col by_ s (i + 1)) (by rw [rI_length]; omega)]
    rw [if_neg (by omega), List.getElem?_eq_none (by rw [rI_length]; omega)]
theorem mI_same {i : Nat} (h : i = row ∨ qat (Spx.rowAt s.m i) col = 0) : mI row col piv s (i + 1) = mI row col piv s i := by
  unfold mI
  refine List.map_congr_left fun j hj => ?_
  by_cases e : j = i
  · subst e
    unfold stM
    rcases h with h | h
    · rw [if_pos h, if_pos h]
    · simp [h]
  · exact stM_ne e
theorem rI_same {i : Nat} (h : i = row ∨ qat (Spx.rowAt s.m i) col = 0) : rI row col by_ s (i + 1) = rI row col by_ s i := by
  unfold rI
  refine List.map_congr_left fun j hj => ?_
  by_cases e : j = i
  · subst e
    unfold stR
    rcases h with h | h
    · rw [if_pos h, if_pos h]
    · simp [h]
  · exact stR_ne e
theorem clearM_eq : ∀ (m : List (List Rat)) (k : Nat), clearM row col piv k m = (List.range m.length).map fun j => if j + k = row then piv else if qat (Spx.rowAt m j) col ≠ 0 then addScaled (- qat (Spx.rowAt m j) col) piv (Spx.rowAt m j) else Spx.rowAt m j
  | [], k => rfl
  | x :: m, k => by
    simp only [clearM, List.length_cons, List.range_succ_eq_map, List.map_cons, List.map_map]
    rw [clearM_eq m (k + 1)]
    congr 1
    · simp [Spx.rowAt]
    · refine List.map_congr_left fun j hj => ?_
      have : (j + 1 + k = row) ↔ (j + (k + 1) = row) := by omega
      simp [Spx.rowAt, this]
theorem clearR_eq : ∀ (m : List (List Rat)) (r : List Rat) (k : Nat), r.length = m.length → clearR row col by_ k m r = (List.range m.length).map fun j => if j + k = row then by_ else if qat (Spx.rowAt m j) col ≠ 0 then (- qat (Spx.rowAt m j) col) * by_ + qat r j else qat r j
  | [], _, k, _ => by simp [clearR]
  | x :: m, [], k, h => by simp at h
  | x :: m, y :: r, k, h => by
    simp only [clearR, List.length_cons, List.range_succ_eq_map, List.map_cons, List.map_map]
    rw [clearR_eq m r (k + 1) (by simpa using h)]
    congr 1
    · simp [Spx.rowAt, qat]
    · refine List.map_congr_left fun j hj => ?_
      have : (j + 1 + k = row) ↔ (j + (k + 1) = row) := by omega
      simp [Spx.rowAt, qat, this]
theorem mI_end : mI row col piv s s.m.length = clearM row col piv 0 s.m := by
  rw [clearM_eq]
  unfold mI
  refine List.map_congr_left fun j hj => ?_
  have hj' : j < s.m.length := by simpa using hj
  unfold stM
  simp [hj']
theorem rI_end (hs : s.r.length = s.m.length) : rI row col by_ s s.m.length = clearR row col by_ 0 s.m s.r := by
  rw [clearR_eq _ _ _ hs]
  unfold rI
  refine List.map_congr_left fun j hj => ?_
  have hj' : j < s.m.length := by simpa using hj
  unfold stR
  simp [hj']
end
end Go.Proofs.YtaajkcngcalgoaaGreat
namespace Go.Proofs.YtaajkcngcalgoaaGreat
namespace Lx
open Go Go.Vc Go.Spx
attribute [local irreducible] Tryz.prog
section
variable {c c' d : Bool} {L M K base n : Nat} {w w' w'' : World} {v o u a b q fv : Value} {x y z : Rat} {xs ys row : List Rat} {m m' : List (List Rat)} {S P P' Q Q' : Nat → Prop} {cs vs : List Value} {s s' : St} {F : Wf} {g : Goal}
theorem Wk.setM {i gm : Nat} {K : World → Prop} (h : Wk L base F w s) (hv : Vec true L (fun k => F.vr.ownBlock ≠ some k) w u row) (hl : row.length = F.cols) (hi : i < s.m.length) (hg : F.vm.ownBlock = some gm)
    (hk : ∀ w', Md (WS F) w w' → Wk L base F w' { s with m := s.m.set i row } → K w') : StoreP CC 23 (.pointer (some ⟨gm, i, none⟩)) u w K := by
  refine h.mat.store2 hv hg hi fun w' hm hmat => hk w' (hm.mono fun k hk => .inr (.inl hk)) ?_
  obtain ⟨vs, h1, _⟩ := h.mat
  obtain ⟨rs, h2, _⟩ := h.right
  refine ⟨h.blk.md hm (Vc.Own.ne h1 h.blk (by decide)), hmat, h.right.md hm (fun k hk => own_apart h2 h1 (by decide) k hk), Vc.Own.md h.basis hm (fun k hk => own_apart h.basis h1 (by decide) k hk), Vc.Own.md h.shut hm (fun k hk => own_apart h.shut h1 (by decide) k hk), h.bs, ?_⟩
  have hs := h.shape
  refine ⟨fun r hr => ?_, by simpa using hs.right, by simpa using hs.basis, hs.inb, hs.shut, by simpa using hs.lim⟩
  rcases List.mem_or_eq_of_mem_set hr with h' | h'
  · exact hs.row r h'
  · rw [h']; exact hl
theorem Wk.setR {i gr : Nat} {K : World → Prop} (h : Wk L base F w s) (hv : QR true L w v x) (hi : i < s.r.length) (hg : F.vr.ownBlock = some gr)
    (hk : ∀ w', Md (WS F) w w' → Wk L base F w' { s with r := s.r.set i x } → K w') : StoreP CC 30 (.pointer (some ⟨gr, i * 4, none⟩)) v w K := by
  refine h.right.store hv hg hi fun w' hm hr => hk w' (hm.mono fun k hk => .inr (.inr (.inl hk))) ?_
  obtain ⟨vs, h1, _⟩ := h.mat
  obtain ⟨rs, h2, _⟩ := h.right
  refine ⟨h.blk.md hm (Vc.Own.ne h2 h.blk (by decide)), h.mat.md hm (fun k hk => own_apart h1 h2 (by decide) k hk) (fun k hk => hk), hr, Vc.Own.md h.basis hm (fun k hk => own_apart h.basis h2 (by decide) k hk), Vc.Own.md h.shut hm (fun k hk => own_apart h.shut h2 (by decide) k hk), h.bs, ?_⟩
  have hs := h.shape
  exact ⟨hs.row, by simpa using hs.right, hs.basis, hs.inb, hs.shut, hs.lim⟩
theorem Wk.setB {i gb k : Nat} {K : World → Prop} (h : Wk L base F w s) (hk' : k < F.cols) (hi : i < s.b.length) (hg : F.vb.ownBlock = some gb)
    (hk : ∀ w', Md (WS F) w w' → Wk L base F w' { s with b := s.b.set i k } → K w') : StoreP CC 3 (.pointer (some ⟨gb, i, none⟩)) (.int .i64 (k : Nat)) w K := by
  refine h.basis.store hg hi fun w' hm hb => hk w' (hm.mono fun k hk => .inr (.inr (.inr (.inl hk)))) ?_
  obtain ⟨vs, h1, _⟩ := h.mat
  obtain ⟨rs, h2, _⟩ := h.right
  refine ⟨h.blk.md hm (Vc.Own.ne h.basis h.blk (by decide)), h.mat.md2 hm (fun k hk => own_apart h1 h.basis (by decide) k hk) (fun k _ hk => NoB.own h.basis (by decide) k hk), h.right.md hm (fun k hk => own_apart h2 h.basis (by decide) k hk), hb, Vc.Own.md h.shut hm (fun k hk => own_apart h.shut h.basis (by decide) k hk), h.bs, ?_⟩
  have hs := h.shape
  refine ⟨hs.row, hs.right, by simpa using hs.basis, fun j hj => ?_, hs.shut, hs.lim⟩
  rcases List.mem_or_eq_of_mem_set hj with h' | h'
  · exact hs.inb j h'
  · rw [h']; exact hk'
theorem Wk.setS {i gs : Nat} {k : Bool} {K : World → Prop} (h : Wk L base F w s) (hi : i < s.s.length) (hg : F.vs.ownBlock = some gs)
    (hk : ∀ w', Md (WS F) w w' → Wk L base F w' { s with s := s.s.set i k } → K w') : StoreP CC 4 (.pointer (some ⟨gs, i, none⟩)) (.bool k) w K := by
  refine h.shut.store hg hi fun w' hm hb => hk w' (hm.mono fun k hk => .inr (.inr (.inr (.inr hk)))) ?_
  obtain ⟨vs, h1, _⟩ := h.mat
  obtain ⟨rs, h2, _⟩ := h.right
  refine ⟨h.blk.md hm (Vc.Own.ne h.shut h.blk (by decide)), h.mat.md2 hm (fun k hk => own_apart h1 h.shut (by decide) k hk) (fun k _ hk => NoB.own h.shut (by decide) k hk), h.right.md hm (fun k hk => own_apart h2 h.shut (by decide) k hk), Vc.Own.md h.basis hm (fun k hk => own_apart h.basis h.shut (by decide) k hk), hb, h.bs, ?_⟩
  have hs := h.shape
  exact ⟨hs.row, hs.right, hs.basis, hs.inb, by simpa using hs.shut, hs.lim⟩
theorem Wk.setN {K : World → Prop} (h : Wk L base F w s) (hn : s.n + 1 < 4611686018427387904)
    (hk : ∀ w', Md (WS F) w w' → Wk L base F w' { s with n := s.n + 1 } → K w') : StoreP CC 3 (.pointer (some ⟨F.g, 5, none⟩)) (.int .i64 ((s.n + 1 : Nat) : Int)) w K := by
  refine StoreP.one ti3 h.blk rfl (by simp) fun w' hu hb => ?_
  have hm := Md.of hu h.blk (by decide)
  obtain ⟨vs, h1, _⟩ := h.mat
  obtain ⟨rs, h2, _⟩ := h.right
  have ne : ∀ {e sz n : Nat} {v : Value} {xs : List Value}, Vc.Own w base e sz v n xs → 215 ≠ e → ∀ k, v.ownBlock = some k → ¬ k = F.g := fun ho he k hk e => Vc.Own.ne ho h.blk he (by rw [← e]; exact hk)
  refine hk w' (hm.mono fun k hk => .inl hk) ⟨hb, h.mat.md2 hm (ne h1 (by decide)) (fun k _ hk => NoB.of h.blk (by decide) k hk), h.right.md hm (ne h2 (by decide)), Vc.Own.md h.basis hm (ne h.basis (by decide)), Vc.Own.md h.shut hm (ne h.shut (by decide)), h.bs, ?_⟩
  have hs := h.shape
  exact ⟨hs.row, hs.right, hs.basis, hs.inb, hs.shut, hs.lim.1, hs.lim.2.1, hn⟩
theorem Wk.fits (h : Wk L base F w s) (hL : 1 ≤ L) : s.ok L = true := ok_iff.2 ⟨h.mat.fits hL, h.right.fits hL⟩
theorem Wk.refit (h : Wk L base F w s) (hf : s.ok M = true) : Wk M base F w s := by
  have hf := ok_iff.1 hf
  exact ⟨h.1, h.mat.refit hf.1, h.right.refit hf.2, h.basis, h.shut, h.bs, h.shape⟩
theorem addScaled_length {k : Rat} {a b : List Rat} : (addScaled k a b).length = max a.length b.length := by simp [addScaled, vwith]
theorem vscale_length {k : Rat} {a : List Rat} : (vscale k a).length = a.length := by simp [vscale, addScaled, vwith]
theorem c201 {rw_ col : Nat} (hw : Wk L base F w s) (hr : rw_ < s.m.length) (hc : col < F.cols) (hne : Spx.mat s.m rw_ col ≠ 0) (h1 : 2 ≤ L) (h2 : 4 * L + 6 ≤ 134217728) (hn : s.n + 1 < 4611686018427387904) :
    CallP CC 201 [.pointer (some ⟨F.g, 0, none⟩), .int .i64 (rw_ : Nat), .int .i64 (col : Nat)] w fun _ w' => Md (WS F) w w' ∧ Wk (4 * L + 6) base F w' (pivot rw_ col s) := by
  have hsh := hw.shape
  have hlm := hsh.lim
  have hfit := ok_iff.1 (hw.fits (by omega))
  have hrl : (Spx.rowAt s.m rw_).length = F.cols := hsh.row _ (rowAt_mem hr)
  have hcl : col < (Spx.rowAt s.m rw_).length := by omega
  have hrr : rw_ < s.r.length := by rw [hsh.right]; exact hr
  obtain ⟨gm, hgm, hidm⟩ := hw.mat.idx (k := .i64) hr
  obtain ⟨gr, hgr, hidr⟩ := hw.right.idx (k := .i64) hrr
  have hidm' : indexAddrV (tyOf tyTab 22) F.vm (.int .i64 (rw_ : Nat)) = _ := hidm
  have hidr' : indexAddrV (tyOf tyTab 23) F.vr (.int .i64 (rw_ : Nat)) = _ := hidr
  obtain ⟨by_, hby⟩ : ∃ by_ : Rat, by_ = 1 / Spx.mat s.m rw_ col := ⟨_, rfl⟩
  have hWS : ∀ k, WS F k → base ≤ k ∧ k < w.heap.size := fun k hk => hw.lt hk
  apply call201
  -- 1 / the pivot
  refine ⟨PhS (fun k => w.heap.size ≤ k), fun l w' => match l with
      | [v6] => Md (fun k => w.heap.size ≤ k) w w' ∧ ∃ g, v6 = .pointer (some ⟨g, 0, none⟩) ∧ w.heap.size ≤ g ∧ ResR true (2 + L) w' g by_
      | _ => True, PhS.grow _, PhS.trans _, fun _ _ => trivial,
    fun v s' => QR true 2 s'.2 v 1, fun v _ => v = F.vm, fun v s' => s'.1 = 0 → Vec true L (fun k => F.vr.ownBlock ≠ some k) s'.2 v (Spx.rowAt s.m rw_), fun v s' => QR true L s'.2 v (Spx.mat s.m rw_ col), fun v s' => ∃ u, v = .tuple #[u, .int .i64 0] ∧ QR true (2 + L) s'.2 u by_,
    fun v s' => ∃ g, v = .pointer (some ⟨g, 0, none⟩) ∧ w.heap.size ≤ g ∧ (s'.1 = 0 → Blk s'.2 g 30 zeroQ), fun _ _ => True, ?_, ?_, ?_, ?_, ?_, ?_, ?_, ?_, ?_, ?_, ?_, ?_, ?_, ?_, ?_⟩
  · intro n w1 hn ht
    obtain ⟨rfl, hg⟩ := ht.z hn
    exact fg (q36 (n := 1) (by decide)) fun r w5 m w6 hr ht => hr.md ht.md
  · exact fun _ _ _ _ _ => ⟨_, rfl⟩
  · exact fun _ _ _ _ _ => ⟨_, rfl⟩
  · exact fun _ _ _ _ _ => ⟨_, rfl⟩
  · intro _ n w1 hn ht
    obtain ⟨rfl, hg⟩ := ht.z hn
    exact LoadP.fld (o := 0) (hw.grow hg).blk ti22 rfl ⟨Grow.refl _, fun _ _ _ => rfl⟩
  · rintro _ _ n w1 hn ht rfl
    exact ⟨_, hidm'⟩
  · rintro _ _ n w1 hn ht e
    obtain ⟨rfl, hg⟩ := ht.z hn
    rw [e, hidm']
    exact (hw.grow hg).mat.load (C := CC) rfl hgm hr fun u hu => ⟨Grow.refl _, fun m w9 ht hm => hu.grow (ht.z (Nat.le_of_eq hm)).2⟩
  · rintro _ _ v19 n w1 hn ht _ h19
    obtain ⟨rfl, hg⟩ := ht.z hn
    exact (h19 rfl).idx hcl
  · rintro _ _ v19 n w1 hn ht _ h19
    obtain ⟨rfl, hg⟩ := ht.z hn
    obtain ⟨ad2, had2⟩ := (h19 rfl).idx (k := .i64) hcl
    have had2' : indexAddrV (tyOf tyTab 23) v19 (.int .i64 (col : Nat)) = _ := had2
    rw [had2']
    exact (h19 rfl).load had2 (qat_get hcl) fun r hr => ⟨Grow.refl _, fun m w9 ht => hr.md ht.md⟩
  · intro _ _ _ _ n w1 hn ht h11 _ _ h22
    refine fg (q195 h11 h22 hne (by decide) (by decide) h1 (by omega)) fun r w5 m w6 ⟨u, hu, hr⟩ ht => ⟨u, hu, ?_⟩
    rw [hby]; exact hr.md ht.md
  · rintro _ _ _ _ _ n w1 hn ht _ _ _ _ ⟨u, rfl, _⟩
    exact ⟨_, rfl⟩
  · rintro _ _ _ _ _ n w1 hn ht _ _ _ _ ⟨u, rfl, _⟩
    exact ⟨_, rfl⟩
  · intro _ _ _ _ _ n w1 hn ht
    obtain ⟨rfl, hg⟩ := ht.z hn
    exact AllocP.mk ti30 fun g w9 hg9 hl9 _ hb9 => ⟨hg9, fun m w10 ht => ⟨g, rfl, by have := hg.size; omega, fun hm => hb9.grow (ht.z (Nat.le_of_eq hm)).2⟩⟩
  · rintro _ _ _ _ _ _ n w1 hn ht rfl _ _ _ _ _ ⟨u, rfl, hu⟩ ⟨g, rfl, hgl, hb⟩
    have hg := ht.z0
    exact storeR (hb rfl) rfl hu fun w9 hm9 hr9 => ⟨PhS.next (hm9.mono fun k hk => by omega), fun _ _ _ => trivial, fun w10 hg10 => ⟨((Md.grow hg).trans (hm9.mono fun k hk => by omega)).trans (Md.grow hg10), g, rfl, hgl, hr9.grow hg10⟩⟩
  rintro _ _ _ _ _ v6 _ _ w2 ht _ _ _ _ _ _ _ ⟨hm2, g6, rfl, hg6, hr6⟩
  have hg2 : Grow w w2 := Md.new (Grow.refl w) hm2 fun k hk => hk
  have hw2 := hw.grow hg2
  have s2 := hg2.size
  have hK1 : L + (2 + L) + 3 ≤ 4 * L + 6 := by omega
  -- the pivot's row
  obtain ⟨piv, hpiv⟩ : ∃ piv, piv = vscale by_ (Spx.rowAt s.m rw_) := ⟨_, rfl⟩
  have hpl : piv.length = F.cols := by rw [hpiv, vscale_length]; exact hrl
  obtain ⟨bq, hbq⟩ : ∃ bq : Rat, bq = by_ * qat s.r rw_ := ⟨_, rfl⟩
  have row_load : ∀ {w3 : World} {v : Value} {n : Nat}, PhS (WS F) (0, w2) (n, w3) → n ≤ 0 → v = F.vm → LoadP CC 23 (gd (indexAddrV (tyOf tyTab 22) v (.int .i64 (rw_ : Nat)))) w3 fun x w4 => Grow w3 w4 ∧ ∀ m w'', PhS (WS F) (n, w4) (m, w'') → (m = 0 → Vec true L (fun k => F.vr.ownBlock ≠ some k) w'' x (Spx.rowAt s.m rw_)) := by
    intro w3 v n ht hn e
    obtain ⟨rfl, hg⟩ := ht.z hn
    rw [e, hidm']
    exact (hw2.grow hg).mat.load (C := CC) rfl hgm hr fun u hu => ⟨Grow.refl _, fun m w9 ht hm => hu.grow (ht.z (Nat.le_of_eq hm)).2⟩
  refine ⟨PhS (WS F), fun l w' => match l with
      | [] => True
      | [_] => Md (WS F) w2 w' ∧ Wk (4 * L + 6) base F w' { s with m := s.m.set rw_ piv }
      | _ => Md (WS F) w2 w' ∧ Wk (4 * L + 6) base F w' { s with m := s.m.set rw_ piv, r := s.r.set rw_ bq }, PhS.grow _, PhS.trans _, fun _ _ => trivial,
    fun v _ => v = F.vm, fun v _ => v = F.vr, fun v s' => QR true (2 + L) s'.2 v by_, fun v _ => v = F.vm, fun v s' => s'.1 = 0 → Vec true L (fun k => F.vr.ownBlock ≠ some k) s'.2 v (Spx.rowAt s.m rw_),
    fun v s' => s'.1 = 0 → Vec true (4 * L + 6) (fun k => F.vr.ownBlock ≠ some k) s'.2 v piv, fun v s' => QR true (2 + L) s'.2 v by_, fun v _ => v = F.vr, fun v s' => QR true L s'.2 v (qat s.r rw_), fun v s' => QR true (4 * L + 6) s'.2 v bq, fun _ _ => True, fun _ _ => True,
    ?_, ?_, ?_, ?_, ?_, ?_, ?_, ?_, ?_, ?_, ?_, ?_, ?_, ?_, ?_, ?_, ?_, ?_, ?_, ?_, ?_, ?_, ?_, ?_, ?_, ?_, ?_, ?_, ?_⟩
  any_goals ((try dsimp only [Fw, Fl]); intros; first | exact ⟨_, rfl⟩ | fail)
  any_goals ((try dsimp only [Fw, Fl]); intros; rename_i n w8 hn ht; first | (obtain ⟨rfl, hg⟩ := PhS.z ht hn; first
    | exact LoadP.fld (o := 0) (hw2.grow hg).blk ti22 rfl ⟨Grow.refl _, fun _ _ _ => rfl⟩
    | exact LoadP.fld (o := 1) (hw2.grow hg).blk ti23 rfl ⟨Grow.refl _, fun _ _ _ => rfl⟩
    | exact (hr6.grow hg).load fun r hr => ⟨Grow.refl _, fun m w14 ht => hr.md ht.md⟩ | fail) | fail)
  · rintro _ _ _ _ n w3 hn ht rfl
    exact ⟨_, hidm'⟩
  · intro _ _ _ v43 n w3 hn ht e
    exact row_load ht hn e
  · intro _ _ v38 _ v46 n w3 hn ht h38 _ h46
    obtain ⟨rfl, hg⟩ := ht.z hn
    refine fg (c104 h38 (h46 rfl) h1 (by omega) (by omega) (by omega)) fun r w5 m w6 hr ht hm => ?_
    have hv := (hr.le (M := 4 * L + 6) (by omega)).vec (by rw [vscale_length]; omega)
    rw [← hpiv] at hv
    exact (hv.mono (Q := fun k => F.vr.ownBlock ≠ some k) fun k _ hk e => by have := (hWS k (.inr (.inr (.inl e)))).2; have := hg.size; omega).grow (ht.z (Nat.le_of_eq hm)).2
  · rintro _ _ _ _ _ _ _ _ n w3 hn ht rfl
    exact ⟨_, hidr'⟩
  · intro _ _ _ _ _ _ _ v53 n w3 hn ht e
    obtain ⟨rfl, hg⟩ := ht.z hn
    rw [e, hidr']
    exact (hw2.grow hg).right.load (C := CC) rfl hgr hrr fun r hr => ⟨Grow.refl _, fun m w9 ht => hr.md ht.md⟩
  · intro _ _ _ _ _ _ v48 _ v56 n w3 hn ht _ _ _ _ h48 _ h56
    refine fg (q44 h48 h56 (by omega) (by omega) h1 (by omega)) fun r w5 m w6 hr ht => ?_
    rw [hbq]; exact (hr.le (by omega)).md ht.md
  · rintro v30 _ _ _ _ _ _ _ _ _ n w3 hn ht e _ _ _ _ _ _ _ _ _
    rw [e]; exact ⟨_, hidm'⟩
  · rintro v30 _ _ _ _ v47 _ _ _ _ n w3 hn ht rfl _ e _ _ _ _ h47 _ _ _ _
    have hg := ht.z0
    rw [e, hidm']
    exact ((hw2.grow hg).le (M := 4 * L + 6) (by omega)).setM (h47 rfl) hpl hr hgm fun w4 hm4 hw4 => ⟨PhS.next hm4, fun _ _ _ => trivial, fun w5 hg5 => ⟨((Md.grow hg).trans hm4).trans (Md.grow hg5), hw4.grow hg5⟩⟩
  · rintro _ v36 _ _ _ _ _ _ _ _ _ n w3 hn ht _ e _ _ _ _ _ _ _ _ _
    rw [e]; exact ⟨_, hidr'⟩
  · rintro _ v36 _ _ _ _ _ _ _ v57 _ n w3 hn ht rfl ⟨hm3, hw3⟩ _ e _ _ _ _ _ _ _ h57 _
    rw [e, hidr']
    exact hw3.setR h57 hrr hgr fun w4 hm4 hw4 => ⟨PhS.next hm4, fun _ _ _ => trivial, fun w5 hg5 => ⟨(hm3.trans hm4).trans (Md.grow hg5), hw4.grow hg5⟩⟩
  rintro _ _ _ _ _ _ _ _ _ _ _ _ _ w3 ht _ _ _ _ _ _ _ _ _ _ _ _ ⟨hm3, hw3⟩
  rw [mI_zero (col := col), rI_zero (row := rw_) (col := col) hsh.right] at hw3
  refine px rfl (px rfl (px rfl (LoadP.fld (o := 0) hw3.blk ti22 rfl (px (MatO.lenV' hw3.mat) ?_))))
  rw [mI_length]
  refine ⟨fun v w' => ∃ i : Nat, v = .int .i64 i ∧ i ≤ s.m.length ∧ Md (fun k => WS F k ∨ w.heap.size ≤ k) w w' ∧ Wk (4 * L + 6) base F w' { s with m := mI rw_ col piv s i, r := rI rw_ col bq s i }, fun v _ => s.m.length - (vint v).toNat,
    ⟨0, rfl, by omega, (Md.grow hg2).trans (hm3.mono fun k hk => .inl hk), hw3⟩, ?_⟩
  rintro _ - w4 ⟨i, rfl, hi, hm4, hw4⟩
  have s4 := hm4.size
  refine px rfl (cD (fun hlt => ?_) (fun hge => ?_))
  · have hlt' : i < s.m.length := by omega
    have hi4 : i < (mI rw_ col piv s i).length := by rw [mI_length]; exact hlt'
    obtain ⟨gm4, hgm4, hidmi⟩ := hw4.mat.idx (k := .i64) hi4
    have egm : gm4 = gm := by rw [hgm] at hgm4; cases hgm4; rfl
    subst egm
    refine px rfl (px rfl (px rfl (LoadP.fld (o := 0) hw4.blk ti22 rfl (px hidmi (hw4.mat.load (C := CC) rfl hgm4 hi4 fun ur hur => ?_)))))
    have hrowl : (Spx.rowAt (mI rw_ col piv s i) i).length = F.cols := hw4.shape.row _ (rowAt_mem hi4)
    have hcl4 : col < (Spx.rowAt (mI rw_ col piv s i) i).length := by omega
    obtain ⟨ad, had⟩ := hur.idx (k := .i64) hcl4
    refine px had (hur.load had (qat_get hcl4) fun re hre => (q151 hre (by omega) (by omega)).mono ?_)
    rintro rn w5 ⟨hg5, hrn⟩
    refine AllocP.mk ti30 fun g9 w6 hg6' hl9 hl9' hb9 => storeR hb9 rfl (hrn.grow hg6') fun w7 hm7 hr9 => ?_
    have s5 := hg5.size
    have s6 := hg6'.size
    have hg47 : Grow w4 w7 := Md.new (hg5.trans hg6') hm7 fun k hk => by omega
    have hw7 := hw4.grow hg47
    have s47 := hg47.size
    -- where nothing is turned
    have keep : ∀ {w8 : World}, Grow w4 w8 → (i = rw_ ∨ qat (Spx.rowAt s.m i) col = 0) →
        ∃ x140, binV (.int .i64) .add (.int .i64 (i : Int)) (.int .i64 1) = some x140 ∧
          (∃ j : Nat, x140 = .int .i64 j ∧ j ≤ s.m.length ∧ Md (fun k => WS F k ∨ w.heap.size ≤ k) w w8 ∧ Wk (4 * L + 6) base F w8 { s with m := mI rw_ col piv s j, r := rI rw_ col bq s j }) ∧
          s.m.length - (vint x140).toNat < s.m.length - (vint (.int .i64 (i : Int))).toNat := by
      intro w8 hg8 hsame
      refine pi rfl (by omega) ⟨⟨i + 1, by simp, by omega, hm4.trans (Md.grow hg8), ?_⟩, by simp only [vint_int]; omega⟩
      rw [mI_same hsame, rI_same hsame]
      exact hw4.grow hg8
    have bne : (((i : Nat) : Int) != ((rw_ : Nat) : Int)) = decide (i ≠ rw_) := by
      rw [Bool.eq_iff_iff, bne_iff_ne, decide_eq_true_iff]; omega
    refine px rfl ?_
    rw [bne]
    by_cases hir : i = rw_
    · have : decide (i ≠ rw_) = false := by simp [hir]
      rw [this]
      exact cF rfl (px rfl (cF rfl (keep hg47 (.inl hir))))
    · have : decide (i ≠ rw_) = true := by simp [hir]
      rw [this]
      have erow : Spx.rowAt (mI rw_ col piv s i) i = Spx.rowAt s.m i := by
        rw [mI_row hlt']; unfold stM; rw [if_neg hir, if_neg (by omega)]
      rw [erow] at hre hrn hr9 hrowl hcl4
      have hfr : FitQ L (qat (Spx.rowAt s.m i) col) := hfit.1 _ (rowAt_mem hlt') _ (qat_mem hcl4)
      refine cT rfl (hr9.load fun r85 h85 => (q42 h85 (by omega)).mono ?_)
      rintro _ w8 ⟨hg8, rfl⟩
      have hg48 := hg47.trans hg8
      have hsg : (-qat (Spx.rowAt s.m i) col).num.sign ≠ 0 ↔ qat (Spx.rowAt s.m i) col ≠ 0 := by
        rw [nz]; constructor <;> intro h h' <;> apply h <;> grind
      refine px rfl (px rfl (cB (fun hnz => ?_) (fun hz => ?_)))
      · have hq0 : qat (Spx.rowAt s.m i) col ≠ 0 := hsg.1 (by simpa using hnz)
        have hw8 := hw4.grow hg48
        have hr98 := hr9.grow hg8
        have hfn : FitQ L (- qat (Spx.rowAt s.m i) col) := hfr.neg
        have hmr : rw_ < (mI rw_ col piv s i).length := by rw [mI_length]; exact hr
        have hrr4 : rw_ < (rI rw_ col bq s i).length := by rw [rI_length]; exact hr
        have hri4 : i < (rI rw_ col bq s i).length := by rw [rI_length]; exact hlt'
        have epr : Spx.rowAt (mI rw_ col piv s i) rw_ = piv := by rw [mI_row hr]; unfold stM; rw [if_pos rfl]
        have ebr : qat (rI rw_ col bq s i) rw_ = bq := by rw [rI_at hr]; unfold stR; rw [if_pos rfl]
        have eri : qat (rI rw_ col bq s i) i = qat s.r i := by rw [rI_at hlt']; unfold stR; rw [if_neg hir, if_neg (by omega)]
        obtain ⟨gr4, hgr4, hidri⟩ := hw8.right.idx (k := .i64) hri4
        have egr : gr4 = gr := by rw [hgr] at hgr4; cases hgr4; rfl
        subst egr
        have hidmi' : indexAddrV (tyOf tyTab 22) F.vm (.int .i64 (i : Nat)) = _ := hidmi
        have hidri' : indexAddrV (tyOf tyTab 23) F.vr (.int .i64 (i : Nat)) = _ := hidri
        have hfp : ∀ x ∈ piv, FitQ (2 * L + 5) x := by
          intro x hx
          rw [hpiv] at hx
          have hf6 : FitQ (2 + L) by_ := by obtain ⟨cs, _, _, hq⟩ := hr6; exact hq.fit (by omega)
          unfold vscale addScaled vwith at hx
          obtain ⟨k, hk, rfl⟩ := List.mem_map.1 hx
          have hk' : k < (Spx.rowAt s.m rw_).length := by simpa using hk
          have e0 : qat [] k = 0 := qat_none (by simp)
          rw [e0]
          have := (hf6.mul (hfit.1 _ (rowAt_mem hr) _ (qat_mem hk'))).add (FitQ.zero (L := 1) (by decide))
          exact this.mono (by omega)
        have hfb : FitQ (2 * L + 2) bq := by
          have hf6 : FitQ (2 + L) by_ := by obtain ⟨cs, _, _, hq⟩ := hr6; exact hq.fit (by omega)
          rw [hbq]; exact (hf6.mul (hfit.2 _ (qat_mem hrr))).mono (by omega)
        obtain ⟨nrow, hnrow⟩ : ∃ nrow, nrow = addScaled (- qat (Spx.rowAt s.m i) col) piv (Spx.rowAt s.m i) := ⟨_, rfl⟩
        have hnl : nrow.length = F.cols := by rw [hnrow, addScaled_length, hpl, hrowl]; simp
        have em : stM rw_ col piv s (i + 1) i = nrow := by unfold stM; rw [if_neg hir, if_pos ⟨by omega, hq0⟩, hnrow]
        obtain ⟨nr, hnr⟩ : ∃ nr : Rat, nr = (- qat (Spx.rowAt s.m i) col) * bq + qat s.r i := ⟨_, rfl⟩
        have er : stR rw_ col bq s (i + 1) i = nr := by unfold stR; rw [if_neg hir, if_pos ⟨by omega, hq0⟩, hnr]
        have hWS8 : ∀ k, WS F k → k < w8.heap.size := fun k hk => (hw8.lt hk).2
        have hrows : ∀ {w9 : World} {v : Value} {n j : Nat}, j < s.m.length → PhS (WS F) (0, w8) (n, w9) → n ≤ 0 → v = F.vm → LoadP CC 23 (gd (indexAddrV (tyOf tyTab 22) v (.int .i64 (j : Nat)))) w9 fun x w10 => Grow w9 w10 ∧ ∀ m w'', PhS (WS F) (n, w10) (m, w'') → (m = 0 → Vec true (4 * L + 6) (fun k => F.vr.ownBlock ≠ some k) w'' x (Spx.rowAt (mI rw_ col piv s i) j)) := by
          intro w9 v n j hj ht hn e
          obtain ⟨rfl, hg⟩ := ht.z hn
          have hj4 : j < (mI rw_ col piv s i).length := by rw [mI_length]; exact hj
          obtain ⟨gm5, hgm5, hidmj⟩ := hw8.mat.idx (k := .i64) hj4
          have hidmj' : indexAddrV (tyOf tyTab 22) F.vm (.int .i64 (j : Nat)) = _ := hidmj
          rw [e, hidmj']
          exact (hw8.grow hg).mat.load (C := CC) rfl hgm5 hj4 fun u hu => ⟨Grow.refl _, fun m w9 ht hm => hu.grow (ht.z (Nat.le_of_eq hm)).2⟩
        have hrights : ∀ {w9 : World} {v : Value} {n j : Nat}, j < s.m.length → PhS (WS F) (0, w8) (n, w9) → n ≤ 0 → v = F.vr → LoadP CC 30 (gd (indexAddrV (tyOf tyTab 23) v (.int .i64 (j : Nat)))) w9 fun x w10 => Grow w9 w10 ∧ ∀ m w'', PhS (WS F) (n, w10) (m, w'') → QR true (4 * L + 6) w'' x (qat (rI rw_ col bq s i) j) := by
          intro w9 v n j hj ht hn e
          obtain ⟨rfl, hg⟩ := ht.z hn
          have hj4 : j < (rI rw_ col bq s i).length := by rw [rI_length]; exact hj
          obtain ⟨gr5, hgr5, hidrj⟩ := hw8.right.idx (k := .i64) hj4
          have hidrj' : indexAddrV (tyOf tyTab 23) F.vr (.int .i64 (j : Nat)) = _ := hidrj
          rw [e, hidrj']
          exact (hw8.grow hg).right.load (C := CC) rfl hgr5 hj4 fun r hr => ⟨Grow.refl _, fun m w9 ht => hr.md ht.md⟩
        have hidx : ∀ {v : Value} {j : Nat}, j < s.m.length → v = F.vm → ∃ x, indexAddrV (tyOf tyTab 22) v (.int .i64 (j : Nat)) = some x := by
          intro v j hj e
          obtain ⟨_, _, h⟩ := hw8.mat.idx (k := .i64) (i := j) (by rw [mI_length]; exact hj)
          rw [e]; exact ⟨_, h⟩
        have hidx2 : ∀ {v : Value} {j : Nat}, j < s.m.length → v = F.vr → ∃ x, indexAddrV (tyOf tyTab 23) v (.int .i64 (j : Nat)) = some x := by
          intro v j hj e
          obtain ⟨_, _, h⟩ := hw8.right.idx (k := .i64) (i := j) (by rw [rI_length]; exact hj)
          rw [e]; exact ⟨_, h⟩
        refine ⟨PhS (WS F), fun l w' => match l with
            | [] => True
            | [_] => Md (WS F) w8 w' ∧ Wk (4 * L + 6) base F w' { s with m := mI rw_ col piv s (i + 1), r := rI rw_ col bq s i }
            | _ => Md (WS F) w8 w' ∧ Wk (4 * L + 6) base F w' { s with m := mI rw_ col piv s (i + 1), r := rI rw_ col bq s (i + 1) }, PhS.grow _, PhS.trans _, fun _ _ => trivial,
          fun v _ => v = F.vm, fun v _ => v = F.vr, fun v s' => QR true (4 * L + 6) s'.2 v (- qat (Spx.rowAt s.m i) col), fun v _ => v = F.vm, fun v s' => s'.1 = 0 → Vec true (4 * L + 6) (fun k => F.vr.ownBlock ≠ some k) s'.2 v piv,
          fun v _ => v = F.vm, fun v s' => s'.1 = 0 → Vec true (4 * L + 6) (fun k => F.vr.ownBlock ≠ some k) s'.2 v (Spx.rowAt s.m i), fun v s' => s'.1 = 0 → Vec true (4 * L + 6) (fun k => F.vr.ownBlock ≠ some k) s'.2 v nrow,
          fun v s' => QR true (4 * L + 6) s'.2 v (- qat (Spx.rowAt s.m i) col), fun v _ => v = F.vr, fun v s' => QR true (4 * L + 6) s'.2 v bq, fun v s' => QR true (3 * L + 2) s'.2 v ((- qat (Spx.rowAt s.m i) col) * bq), fun v _ => v = F.vr, fun v s' => QR true (4 * L + 6) s'.2 v (qat s.r i),
          fun v s' => QR true (4 * L + 6) s'.2 v nr, fun _ _ => True, fun _ _ => True,
          ?_, ?_, ?_, ?_, ?_, ?_, ?_, ?_, ?_, ?_, ?_, ?_, ?_, ?_, ?_, ?_, ?_, ?_, ?_, ?_, ?_, ?_, ?_, ?_, ?_, ?_, ?_, ?_, ?_, ?_, ?_, ?_, ?_, ?_, ?_, ?_, ?_, ?_, ?_, ?_, ?_, ?_⟩
        any_goals ((try dsimp only [Fw, Fl]); intros; first | exact ⟨_, rfl⟩ | fail)
        any_goals ((try dsimp only [Fw, Fl]); intros; rename_i n w8 hn ht; first | (obtain ⟨rfl, hg⟩ := PhS.z ht hn; first
          | exact LoadP.fld (o := 0) (hw8.grow hg).blk ti22 rfl ⟨Grow.refl _, fun _ _ _ => rfl⟩
          | exact LoadP.fld (o := 1) (hw8.grow hg).blk ti23 rfl ⟨Grow.refl _, fun _ _ _ => rfl⟩
          | exact (hr98.grow hg).load fun r hr => ⟨Grow.refl _, fun m w14 ht => hr.md ht.md⟩ | fail) | fail)
        any_goals ((try dsimp only [Fw, Fl]); intros; rename_i e; first | exact hidx hr e | exact hidx hlt' e | exact hidx2 hr e | exact hidx2 hlt' e | fail)
        · intro _ _ _ v106 n w9 hn ht e
          have := hrows (j := rw_) hr ht hn e
          rw [epr] at this; exact this
        · intro _ _ _ _ _ v114 n w9 hn ht e
          have := hrows (j := i) hlt' ht hn e
          rw [erow] at this; exact this
        · intro _ _ v101 _ v109 _ v117 n w9 hn ht h101 _ h109 _ h117
          obtain ⟨rfl, hg⟩ := ht.z hn
          refine fg (c24 (h101.refit (c := true) hfn) ((h109 rfl).refit (c := true) hfp) ((h117 rfl).refit (c := true) (fun x hx => hfit.1 _ (rowAt_mem hlt') x hx)) (by omega) h1 h1 (by omega) (by omega)) fun r w5 m w6 hr ht hm => ?_
          have hv := (hr.le (M := 4 * L + 6) (by omega)).vec (by rw [addScaled_length]; omega)
          rw [← hnrow] at hv
          exact (hv.mono (Q := fun k => F.vr.ownBlock ≠ some k) fun k _ hk e => by have := hWS8 k (.inr (.inr (.inl e))); have := hg.size; omega).grow (ht.z (Nat.le_of_eq hm)).2
        · intro _ _ _ _ _ _ _ _ _ v124 n w9 hn ht e
          have := hrights (j := rw_) hr ht hn e
          rw [ebr] at this; exact this
        · intro _ _ _ _ _ _ _ _ v119 _ v127 n w9 hn ht _ _ _ _ _ _ h119 _ h127
          refine fg (q44 (h119.refit (c := true) hfn) (h127.refit (c := true) hfb) h1 (by omega) (by omega) (by omega)) fun r w5 m w6 hr ht => (hr.le (by omega)).md ht.md
        · intro _ _ _ _ _ _ _ _ _ _ _ _ v133 n w9 hn ht e
          have := hrights (j := i) hlt' ht hn e
          rw [eri] at this; exact this
        · intro _ _ _ _ _ _ _ _ _ _ _ v128 _ v136 n w9 hn ht _ _ _ _ _ _ _ _ _ h128 _ h136
          refine fg (q41 h128 (h136.refit (c := true) (hfit.2 _ (qat_mem (by rw [hsh.right]; exact hlt')))) (by omega) (by omega) h1 (by omega)) fun r w5 m w6 hr ht => ?_
          rw [hnr]; exact (hr.le (by omega)).md ht.md
        · rintro v93 _ _ _ _ _ _ _ _ _ _ _ _ _ _ n w9 hn ht e _ _ _ _ _ _ _ _ _ _ _ _ _ _
          exact hidx hlt' e
        · rintro v93 _ _ _ _ _ _ v118 _ _ _ _ _ _ _ n w9 hn ht rfl _ e _ _ _ _ _ _ h118 _ _ _ _ _ _ _
          have hg := ht.z0
          rw [e, hidmi']
          refine (hw8.grow hg).setM (h118 rfl) hnl hi4 hgm4 fun w10 hm10 hw10 => ⟨PhS.next hm10, fun _ _ _ => trivial, fun w11 hg11 => ⟨((Md.grow hg).trans hm10).trans (Md.grow hg11), ?_⟩⟩
          have := hw10.grow hg11
          simp only at this
          rw [← em, mI_set hlt'] at this
          exact this
        · rintro _ v99 _ _ _ _ _ _ _ _ _ _ _ _ _ _ n w9 hn ht _ e _ _ _ _ _ _ _ _ _ _ _ _ _ _
          exact hidx2 hlt' e
        · rintro _ v99 _ _ _ _ _ _ _ _ _ _ _ _ v137 _ n w9 hn ht rfl ⟨hm9, hw9⟩ _ e _ _ _ _ _ _ _ _ _ _ _ _ h137 _
          rw [e, hidri']
          refine hw9.setR h137 hri4 hgr4 fun w10 hm10 hw10 => ⟨PhS.next hm10, fun _ _ _ => trivial, fun w11 hg11 => ⟨(hm9.trans hm10).trans (Md.grow hg11), ?_⟩⟩
          have := hw10.grow hg11
          simp only at this
          rw [← er, rI_set hlt'] at this
          exact this
        · rintro _ _ _ _ _ _ _ _ _ _ _ _ _ _ _ _ _ _ w9 ht _ _ _ _ _ _ _ _ _ _ _ _ _ _ _ _ _ ⟨hm9, hw9⟩
          exact pi rfl (by omega) ⟨⟨i + 1, by simp, by omega, (hm4.trans (Md.grow hg48)).trans (hm9.mono fun k hk => .inl hk), hw9⟩, by simp only [vint_int]; omega⟩
      · have hq0 : qat (Spx.rowAt s.m i) col = 0 := by
          have : ¬ (-qat (Spx.rowAt s.m i) col).num.sign ≠ 0 := by simpa using hz
          exact Classical.not_not.1 fun h => this (hsg.2 h)
        exact keep hg48 (.inr hq0)
  · have : i = s.m.length := by omega
    subst this
    rw [mI_end, rI_end hsh.right] at hw4
    have hbl : rw_ < s.b.length := by rw [hsh.basis]; exact hr
    obtain ⟨gb, hgb, hidb⟩ := hw4.basis.idx (k := .i64) hbl
    refine px rfl (px rfl (px rfl (LoadP.fld (o := 2) hw4.blk ti67 rfl (px hidb (hw4.setB hc hbl hgb fun w5 hm5 hw5 => ?_)))))
    refine px rfl (px rfl (LoadP.fld (o := 5) hw5.blk ti3 rfl (pi (x := ((s.n + 1 : Nat) : Int)) rfl (by omega) (px rfl (px rfl (hw5.setN hn fun w6 hm6 hw6 => ?_))))))
    refine ⟨?_, ?_⟩
    · have hall := (hm4.trans (hm5.mono fun k hk => .inl hk)).trans (hm6.mono fun k hk => .inl hk)
      refine ⟨⟨hall.upd.os, hall.upd.tape, hall.upd.output, hall.upd.size, fun k o hk ho => hall.upd.block k o ?_ ho⟩, hall.kw⟩
      rintro (h | h)
      · exact hk h
      · have := lt_of_get ho; omega
    · have e : pivot rw_ col s = { m := clearM rw_ col piv 0 s.m, r := clearR rw_ col bq 0 s.m s.r, b := s.b.set rw_ col, s := s.s, n := s.n + 1 } := by
        unfold pivot
        rw [hpiv, hbq, hby]
      rw [e]; exact hw6
end
end Lx
end Go.Proofs.YtaajkcngcalgoaaGreat
namespace Go.Proofs.YtaajkcngcalgoaaGreat
namespace Lx
open Go Go.Vc Go.Spx
attribute [local irreducible] Tryz.prog
theorem Md_restr {S : Nat → Prop} {w w' : World} (h : Md (fun k => S k ∨ w.heap.size ≤ k) w w') : Md S w w' :=
  ⟨⟨h.upd.os, h.upd.tape, h.upd.output, h.upd.size, fun k o hk ho => h.upd.block k o (fun h' => h'.elim hk fun h' => by have := lt_of_get ho; omega) ho⟩, h.kw⟩
def opens (s : St) (cols : Nat) : List Nat := (List.range cols).filter fun k => !(s.s.getD k true)
theorem opens_at {s : St} {cols j : Nat} (hj : j < cols) (ho : s.s.getD j true = false) : (opens s cols)[((List.range j).filter fun k => !(s.s.getD k true)).length]? = some j := by
  obtain ⟨d, rfl⟩ : ∃ d, cols = (j + 1) + d := ⟨cols - (j + 1), by omega⟩
  unfold opens
  rw [List.range_add, List.filter_append, List.range_succ, List.filter_append]
  have : [j].filter (fun k => !(s.s.getD k true)) = [j] := by simp only [List.filter_cons, ho, Bool.not_false, if_true, List.filter_nil]
  rw [this, List.append_assoc, List.getElem?_append_right (Nat.le_refl _)]
  simp
theorem opens_mem {s : St} {cols j : Nat} : j ∈ opens s cols ↔ j < cols ∧ s.s.getD j true = false := by
  unfold opens
  simp only [List.mem_filter, List.mem_range, Bool.not_eq_true']
theorem opens_nodup {s : St} {cols : Nat} : (opens s cols).Nodup := List.nodup_range.filter _
theorem enter_eq {g : Goal} {s : St} {cols : Nat} : enter g s cols = (opens s cols).find? fun k => decide (cost g k s < 0) := by
  unfold enter opens
  rw [List.find?_filter]
  congr 1
  funext k
  cases (!s.s.getD k true) <;> simp
theorem find_at {l : List Nat} {q : Nat → Bool} {k j : Nat} (hk : l[k]? = some j) (h0 : ∀ i ∈ l.take k, q i = false) (hq : q j = true) : l.find? q = some j := by
  have hlt := (List.getElem?_eq_some_iff.1 hk).1
  have e : l = l.take k ++ j :: l.drop (k + 1) := by
    conv => lhs; rw [← List.take_append_drop k l]
    congr 1
    rw [List.drop_eq_getElem_cons hlt]
    have := (List.getElem?_eq_some_iff.1 hk).2
    rw [this]
  rw [e, List.find?_append]
  have : (l.take k).find? q = none := by
    rw [List.find?_eq_none]
    intro x hx; rw [h0 x hx]; simp
  rw [this]
  simp [hq]
section
variable {c c' d : Bool} {L M K base n : Nat} {w w' w'' : World} {v o u a b q fv : Value} {x y z : Rat} {xs ys row : List Rat} {m m' : List (List Rat)} {S P P' Q Q' : Nat → Prop} {cs vs : List Value} {s s' : St} {F : Wf} {g : Goal}
theorem cost_congr {s s' : St} (hm : s'.m = s.m) (hb : s'.b = s.b) (k : Nat) : cost g k s' = cost g k s := by
  unfold cost; rw [hm, hb]
theorem leave_all (col : Nat) (s : St) (R : Nat → Prop) : ∀ (m1 : List (List Rat)) (i : Nat) (o : Option (Nat × Rat)), (∀ a q, o = some (a, q) → R a) → (∀ j x, m1[j]? = some x → ¬ qat x col ≤ 0 → R (i + j)) → ∀ a q, leaveFrom col s i m1 o = some (a, q) → R a
  | [], i, o, h, _, a, q, e => h a q e
  | y :: m1, i, o, h, hm, a, q, e => by
    rw [leaveFrom_cons] at e
    refine leave_all col s R m1 (i + 1) _ ?_ ?_ a q e
    · intro a q e
      unfold leaveStep at e
      split at e
      · exact h a q e
      · rename_i hp
        have hi : R i := by have := hm 0 y rfl hp; simpa using this
        split at e
        · cases e; exact hi
        · split at e
          · cases e; exact hi
          · cases e; exact h _ _ rfl
    · intro j x hj hp
      have := hm (j + 1) x (by simpa using hj) hp
      rw [show i + 1 + j = i + (j + 1) by omega]; exact this
theorem leave_spec {col r : Nat} {s : St} (h : leave col s = some r) : r < s.m.length ∧ Spx.mat s.m r col ≠ 0 := by
  unfold leave at h
  rw [Option.map_eq_some_iff] at h
  obtain ⟨⟨a, q⟩, h1, rfl⟩ := h
  refine leave_all col s (fun r => r < s.m.length ∧ Spx.mat s.m r col ≠ 0) s.m 0 none (by simp) (fun j x hj hp => ?_) a q h1
  have hlt := (List.getElem?_eq_some_iff.1 hj).1
  rw [Nat.zero_add]
  refine ⟨hlt, fun e => hp ?_⟩
  have : Spx.mat s.m j col = qat x col := by
    unfold Spx.mat Spx.rowAt
    rw [List.getD_eq_getElem?_getD, hj]; rfl
  rw [← this, e]; exact Rat.le_refl
def OpenAt (L base : Nat) (F : Wf) (P : Nat → Prop) (g1 g2 : Nat) (fv : Value) (g : Goal) (s : St) (k : Nat) (w : World) : Prop :=
  Blk w g1 202 [.pointer (some ⟨F.g, 0, none⟩)] ∧ Blk w g2 210 [fv] ∧ GoalV L P w fv g ∧ ∃ s', Wk L base F w s' ∧ s'.m = s.m ∧ s'.b = s.b ∧ (∀ j, j < F.cols → s.s.getD j true = true → s'.s.getD j true = true) ∧ ∀ i j, k ≤ i → (opens s F.cols)[i]? = some j → s'.s.getD j true = false
theorem iter222 {w0 : World} {g1 g2 : Nat} (h1 : 2 ≤ L) (h2 : L + (s.m.length + 1) * (2 * L + 1) ≤ 268435456) :
    Iter CC 222 [.pointer (some ⟨g1, 0, none⟩), .pointer (some ⟨g2, 0, none⟩)] w0 (OpenAt L base F P g1 g2 fv g s) (opens s F.cols).length
      (fun k w vs => ∃ j r, (opens s F.cols)[k]? = some j ∧ vs = [.int .i64 (j : Nat), r] ∧ QR true (L + s.m.length * (2 * L + 1)) w r (cost g j s)) := by
  intro y J Jx hy hS hJ hJx hyield w hw
  have hc : CallP (CY y) 222 [.func (.yield y) #[] #[], .pointer (some ⟨g1, 0, none⟩), .pointer (some ⟨g2, 0, none⟩)] w fun _ w' => J (opens s F.cols).length w' ∨ Jx w' := by
    apply call222
    obtain ⟨hb1, hb2, hgv, s', hwk, em, eb, hsh, hop⟩ := hS 0 w hw
    have hcl := hwk.shape.lim.2.1
    refine LoadP.cy (LoadP.fld hb1 (ti202) rfl (px rfl (px rfl (LoadP.fld (o := 3) hwk.blk ti3 rfl ?_))))
    refine ⟨fun v w' => ∃ j : Nat, v = .int .i64 j ∧ j ≤ F.cols ∧ J ((List.range j).filter fun k => !(s.s.getD k true)).length w', fun v _ => F.cols - (vint v).toNat, ⟨0, rfl, Nat.zero_le _, hw⟩, ?_⟩
    rintro _ - w3 ⟨j, rfl, hj, hJk⟩
    refine px rfl (cD (fun hlt => ?_) (fun hge => ?_))
    · have hjN : j < F.cols := by omega
      obtain ⟨hb1, hb2, hgv, s', hwk, em, eb, hsh, hop⟩ := hS _ w3 hJk
      have hsl : j < s'.s.length := by rw [hwk.shape.shut]; exact hjN
      obtain ⟨gs, hgs, hids⟩ := hwk.shut.idx (k := .i64) hsl
      refine LoadP.cy (LoadP.fld hb1 (ti202) rfl (px rfl (px rfl (LoadP.fld (o := 4) hwk.blk ti94 rfl (px hids (LoadP.cy (hwk.shut.load (C := CC) rfl hgs hsl ?_)))))))
      refine px rfl ?_
      cases hop' : s.s.getD j true with
      | true =>
        rw [hsh j hjN hop']
        refine cF rfl (px rfl (cF rfl (pi rfl (by omega) ⟨⟨j + 1, by simp, by omega, ?_⟩, by simp only [vint_int]; omega⟩)))
        have : (List.range (j + 1)).filter (fun k => !(s.s.getD k true)) = (List.range j).filter fun k => !(s.s.getD k true) := by
          rw [List.range_succ, List.filter_append]
          simp only [List.filter_cons, hop', Bool.not_true, List.filter_nil]
          simp
        rw [this]; exact hJk
      | false =>
        have hat := opens_at hjN hop'
        rw [hop _ j (Nat.le_refl _) hat]
        have hk : ((List.range j).filter fun k => !(s.s.getD k true)).length < (opens s F.cols).length := (List.getElem?_eq_some_iff.1 hat).1
        have enext : ((List.range (j + 1)).filter fun k => !(s.s.getD k true)).length = ((List.range j).filter fun k => !(s.s.getD k true)).length + 1 := by
          rw [List.range_succ, List.filter_append]
          simp only [List.filter_cons, hop', Bool.not_false, if_true, List.filter_nil]
          simp
        refine cT rfl (LoadP.cy (LoadP.fld hb1 (ti202) rfl (LoadP.cy (y := y) (LoadP.row (cs := [fv]) ti210 hb2 rfl ?_))))
        refine CallP.cy rfl ((c202 hwk hgv hjN h1 (by rw [em]; exact h2)).mono ?_)
        rintro r w4 ⟨hg4, hr⟩
        rw [em, cost_congr em eb] at hr
        have h := hyield _ w4 [.int .i64 (j : Nat), r] hk (hJ _ _ _ hJk hg4) ⟨j, r, hat, rfl, hr⟩
        obtain ⟨f, tmps, assign, body, he, hrr⟩ := h
        refine ⟨f, tmps, assign, body, he, hrr.mono ?_⟩
        rintro e w5 ⟨v, rfl, hn, hv⟩
        refine ⟨v, rfl, hn, ?_⟩
        rcases hv with ⟨rfl, hv⟩ | ⟨rfl, hv⟩
        · refine px rfl (px rfl (cF rfl (pi rfl (by omega) ⟨⟨j + 1, by simp, by omega, ?_⟩, by simp only [vint_int]; omega⟩)))
          rw [enext]; exact hv
        · exact px rfl (px rfl (cT rfl (.inr hv)))
    · have : j = F.cols := by omega
      subst this
      exact .inl hJk
  refine Calls.mono hc ?_
  rintro e w' ⟨v, rfl, hn, hv⟩
  exact ⟨⟨v, rfl⟩, hv⟩
theorem c207 (hw : Wk L base F w s) (hgv : GoalV L P w fv g) : CallP CC 207 [.pointer (some ⟨F.g, 0, none⟩), .agg #[fv]] w fun r w' => Grow w w' ∧ ∃ g1 g2, w.heap.size ≤ g1 ∧ w.heap.size ≤ g2 ∧ g1 < w'.heap.size ∧ g2 < w'.heap.size ∧ r = .func (.func 222) #[] #[.pointer (some ⟨g1, 0, none⟩), .pointer (some ⟨g2, 0, none⟩)] ∧ OpenAt L base F P g1 g2 fv g s 0 w' := by
  apply call207
  refine BoxP.mk fun g1 w1 hg1 hl1 hl1' hb1 => BoxP.mk fun g2 w2 hg2 hl2 hl2' hb2 => px rfl ?_
  refine ⟨hg1.trans hg2, g1, g2, hl1, Nat.le_trans hg1.size hl2, Nat.lt_of_lt_of_le hl1' hg2.size, hl2', rfl, hb1.grow hg2, hb2, hgv.grow (hg1.trans hg2), s, hw.grow (hg1.trans hg2), rfl, rfl, fun _ _ h => h, fun i j _ h => ?_⟩
  exact (opens_mem.1 (List.mem_of_getElem? h)).2
def shI (g : Goal) (s : St) (cols k : Nat) : List Bool := (List.range cols).map fun j => if j ∈ (opens s cols).take k then decide (cost g j s ≠ 0) else s.s.getD j true
theorem shI_length {cols k : Nat} : (shI g s cols k).length = cols := by simp [shI]
theorem shI_get {cols k j : Nat} (hj : j < cols) : (shI g s cols k).getD j true = if j ∈ (opens s cols).take k then decide (cost g j s ≠ 0) else s.s.getD j true := by
  unfold shI
  rw [List.getD_eq_getElem?_getD, List.getElem?_map, List.getElem?_range hj]; rfl
theorem shI_zero {cols : Nat} (h : s.s.length = cols) : shI g s cols 0 = s.s := by
  apply List.ext_getElem?
  intro j
  by_cases hj : j < cols
  · unfold shI
    rw [List.getElem?_map, List.getElem?_range hj]
    simp only [List.take_zero, List.not_mem_nil, if_false, Option.map_some]
    rw [List.getD_eq_getElem?_getD, List.getElem?_eq_getElem (by omega)]; rfl
  · rw [List.getElem?_eq_none (by rw [shI_length]; omega), List.getElem?_eq_none (by omega)]
theorem shI_set {cols k j : Nat} (hk : (opens s cols)[k]? = some j) : (shI g s cols k).set j (decide (cost g j s ≠ 0)) = shI g s cols (k + 1) := by
  have hj := (opens_mem.1 (List.mem_of_getElem? hk)).1
  apply List.ext_getElem?
  intro i
  rw [List.getElem?_set, shI_length]
  by_cases hi : i < cols
  · unfold shI
    rw [List.getElem?_map, List.getElem?_map, List.getElem?_range hi]
    simp only [Option.map_some]
    rw [take_snoc hk]
    by_cases e : j = i
    · subst e; simp [hi]
    · rw [if_neg e]
      have : (i ∈ (opens s cols).take k ++ [j]) ↔ i ∈ (opens s cols).take k := by simp [Ne.symm e]
      simp only [this]
  · rw [List.getElem?_eq_none (l := shI g s cols (k + 1)) (by rw [shI_length]; omega)]
    rw [if_neg (by omega), List.getElem?_eq_none (by rw [shI_length]; omega)]
theorem shI_end {cols : Nat} : shI g s cols (opens s cols).length = shutBy g s cols := by
  unfold shI shutBy
  rw [List.take_length]
  refine List.map_congr_left fun j hj => ?_
  have hj' : j < cols := by simpa using hj
  cases h : s.s.getD j true with
  | true =>
    rw [if_neg]
    · simp
    · intro hm; rw [(opens_mem.1 hm).2] at h; cases h
  | false =>
    rw [if_pos (opens_mem.2 ⟨hj', h⟩)]; simp
theorem not_mem_take {l : List Nat} (hn : l.Nodup) {i k j : Nat} (hi : k ≤ i) (h : l[i]? = some j) : j ∉ l.take k := by
  intro hm
  obtain ⟨a, ha, e⟩ := List.mem_iff_getElem.1 hm
  have ha' : a < k := by simp at ha; omega
  have hal : a < l.length := by simp at ha; omega
  have e1 : l[a] = j := by simpa using e
  obtain ⟨hil, e2⟩ := List.getElem?_eq_some_iff.1 h
  have := (List.getElem_inj (h₀ := hal) (h₁ := hil) hn).1 (by rw [e1, e2])
  omega
def nOf (w : World) (g : Nat) : Nat := match w.heap[g]? with
  | some (Obj.cells cs _ _) => match cs[5]? with | some (Value.int _ k) => k.toNat | _ => 0
  | _ => 0
theorem Wk.nOf (h : Wk L base F w s) : nOf w F.g = s.n := by
  have := h.blk
  unfold Blk at this
  unfold Lx.nOf
  rw [this]
  simp
theorem c167 {fuel : Nat} {o : Option Nat} (hw : Wk L base F w s) (hgv : GoalV L P w fv g) (hP : ∀ k, P k → ¬ WS F k) (hPl : ∀ k, P k → k < w.heap.size) (hcl : climb L F.cols g fuel s = some (s', o)) (h1 : 2 ≤ L) (h2 : 4 * L + 6 ≤ 134217728) (h3 : L + (s.m.length + 1) * (2 * L + 1) ≤ 268435456) (hn : s.n + fuel < 4611686018427387904) :
    CallP CC 167 [.pointer (some ⟨F.g, 0, none⟩), .agg #[fv]] w fun r w' => Md (WS F) w w' ∧ Wk L base F w' s' ∧ r = .tuple #[.int .i64 (match o with | none => 0 | some k => (k : Int)), .bool o.isNone] := by
  apply call167
  refine BoxP.mk fun g2 w1 hg1 hl2 hl2' hb2 => BoxP.mk fun g3 w2 hg2 hl3 hl3' hb3 => ?_
  have hb2 : Blk w1 g2 202 [.pointer (some ⟨F.g, 0, none⟩)] := by simpa [Value.cells] using hb2
  have hb3 : Blk w2 g3 210 [fv] := by simpa [Value.cells] using hb3
  have z1 := hg1.size
  have z2 := hg2.size
  have hg02 := hg1.trans hg2
  have hWl : ∀ k, WS F k → k < w.heap.size := fun k hk => (hw.lt hk).2
  refine ⟨fun y4 y5 w' => y4 = .int .i64 0 ∧ y5 = .bool false ∧ ∃ f s1, climb L F.cols g f s1 = some (s', o) ∧ f + s1.n = fuel + s.n ∧ s1.m.length = s.m.length ∧ Wk L base F w' s1 ∧ GoalV L P w' fv g ∧ Blk w' g2 202 [.pointer (some ⟨F.g, 0, none⟩)] ∧ Blk w' g3 210 [fv] ∧ Md (fun k => WS F k ∨ w.heap.size ≤ k) w w' ∧ w2.heap.size ≤ w'.heap.size,
    fun _ _ w' => fuel + s.n - nOf w' F.g, ⟨rfl, rfl, fuel, s, hcl, rfl, rfl, hw.grow hg02, hgv.grow hg02, hb2.grow hg2, hb3, Md.grow hg02, Nat.le_refl _⟩, ?_⟩
  rintro _ _ - w3 ⟨rfl, rfl, f, s1, hcl1, hfn, hml, hw3, hgv3, hb23, hb33, hm3, hs3⟩
  cases f with
  | zero => simp [climb] at hcl1
  | succ f =>
  refine AllocP.mk ti3 fun g6 w4 hg4 hl6 hl6' hb6 => StoreP.var ti3 hb6 rfl fun w5 hu5 hb65 => ?_
  have hm5 := Md.of hu5 hb6 (by decide)
  have z4 := hg4.size
  have hg35 : Grow w3 w5 := Md.new hg4 hm5 fun k hk => by omega
  have hw5 := hw3.grow hg35
  have hgv5 := hgv3.grow hg35
  have hb25 := hb23.grow hg35
  have hb35 := hb33.grow hg35
  have z35 := hg35.size
  refine LoadP.fld hb25 ti202 rfl (LoadP.row (cs := [fv]) ti210 hb35 rfl ((c207 hw5 hgv5).mono ?_))
  rintro _ w8 ⟨hg8, ga, gb, hla, hlb, hla', hlb', rfl, hop⟩
  have hg38 := hg35.trans hg8
  have z8 := hg8.size
  have hb28 := hb25.grow hg8
  have hb38 := hb35.grow hg8
  have hb68 := hb65.grow hg8
  have hw8 := hw5.grow hg8
  have hsh := hw8.shape
  have hKs : L + (s1.m.length + 1) * (2 * L + 1) ≤ 268435456 := by rw [hml]; exact h3
  have hK2 : L + s1.m.length * (2 * L + 1) ≤ 268435456 := by
    have : s1.m.length * (2 * L + 1) ≤ (s1.m.length + 1) * (2 * L + 1) := Nat.mul_le_mul_right _ (by omega)
    omega
  have hm8 : Md (fun k => WS F k ∨ w.heap.size ≤ k) w w8 := hm3.trans (Md.grow hg38)
  refine ⟨222, _, rfl, rfl, _, _, _, iter222 (F := F) (L := L) (base := base) (P := P) (g := g) (fv := fv) (s := s1) h1 hKs, by rintro k w' vs ⟨j, r, _, h, _⟩; rw [h]; rfl,
    fun k w' => Md (fun k => w8.heap.size ≤ k) w8 w' ∧ OpenAt L base F P ga gb fv g s1 k w' ∧ Blk w' g6 3 [.int .i64 (-1)] ∧ ∀ j ∈ (opens s1 F.cols).take k, ¬ cost g j s1 < 0,
    fun j w' => j = .exit 2 ∧ Md (fun k => g6 = k ∨ w8.heap.size ≤ k) w8 w' ∧ ∃ i : Nat, i < F.cols ∧ Blk w' g6 3 [.int .i64 (i : Nat)] ∧ enter g s1 F.cols = some i, ?_, fun _ _ h => h.2.1, ?_, ?_, ?_⟩
  · intro w' hs
    have hm := Md.sys hs (Nat.le_refl _)
    refine ⟨hm, ⟨hop.1.sys hs, hop.2.1.sys hs, hop.2.2.1.sys hs, ?_⟩, hb68.sys hs, fun j hj => by simp at hj⟩
    obtain ⟨s2, h2, h3⟩ := hop.2.2.2
    exact ⟨s2, h2.sys hs, h3⟩
  · rintro k hk x15 x16 w9 ⟨hm9, hop9, hb69, h0⟩ ⟨j, r, hj, hv, hr⟩
    simp only [List.cons.injEq, and_true] at hv
    obtain ⟨rfl, rfl⟩ := hv
    have hjc := (opens_mem.1 (List.mem_of_getElem? hj)).1
    have z9 := hm9.size
    refine AllocP.mk ti30 fun g8 w10 hg10 hl8 hl8' hb8 => storeR hb8 rfl (hr.grow hg10) fun w11 hm11 hr11 w12 hs12 => (hr11.sys hs12).load fun r17 h17 => (q42 h17 (by omega)).mono ?_
    rintro _ w13 ⟨hg13, rfl⟩
    have hg911 : Grow w9 w11 := Md.new hg10 hm11 fun k hk => by omega
    have z911 := hg911.size
    have hm13 : Md (fun k => w8.heap.size ≤ k) w8 w13 := ((hm9.trans (Md.grow hg911)).trans (Md.sys hs12 (Nat.le_refl _))).trans (Md.grow hg13)
    have hb613 := ((hb69.grow hg911).sys hs12).grow hg13
    refine px rfl (cD (fun hneg => ?_) (fun hnn => ?_))
    · have hneg' : cost g j s1 < 0 := vsgn_neg.1 hneg
      refine StoreP.var ti3 hb613 rfl fun w14 hu14 hb14 w15 hs15 => ?_
      have hm14 := Md.of hu14 hb613 (by decide)
      refine ⟨rfl, ((hm13.mono fun k hk => .inr hk).trans (hm14.mono fun k hk => .inl hk.symm)).trans ((Md.sys hs15 (Nat.le_refl _)).mono fun k hk => .inr hk), j, hjc, hb14.sys hs15, ?_⟩
      rw [enter_eq]
      exact find_at hj (fun i hi => by simpa using h0 i hi) (by simpa using hneg')
    · have hnn' : ¬ cost g j s1 < 0 := fun h => hnn (vsgn_neg.2 h)
      intro w15 hs15
      obtain ⟨o1, o2, o3, s2, o4, o5, o6, o7, o8⟩ := hop9
      refine ⟨hm13.trans (Md.sys hs15 (Nat.le_refl _)), ⟨(((o1.grow hg911).sys hs12).grow hg13).sys hs15, (((o2.grow hg911).sys hs12).grow hg13).sys hs15, (((o3.grow hg911).sys hs12).grow hg13).sys hs15, s2, (((o4.grow hg911).sys hs12).grow hg13).sys hs15, o5, o6, o7, fun i j hi => o8 i j (by omega)⟩, hb613.sys hs15, fun i hi => ?_⟩
      rw [take_snoc hj] at hi
      rcases List.mem_append.1 hi with hi | hi
      · exact h0 i hi
      · simp at hi; rw [hi]; exact hnn'
  · -- no column may enter: what may not enter any more is shut
    rintro w9 ⟨hm9, hop9, hb69, h0⟩
    rw [List.take_length] at h0
    have hent : enter g s1 F.cols = none := by
      rw [enter_eq, List.find?_eq_none]
      intro j hj; simpa using h0 j hj
    rw [climb, hent] at hcl1
    simp only [Option.some.injEq, Prod.mk.injEq] at hcl1
    obtain ⟨e1, e2⟩ := hcl1
    have hg89 : Grow w8 w9 := Md.new (Grow.refl w8) hm9 fun k hk => hk
    have hw9 := hw8.grow hg89
    have hgv9 := hgv3.grow (hg38.trans hg89)
    have hb29 := hb28.grow hg89
    have hb39 := hb38.grow hg89
    have hm09 := hm8.trans (Md.grow hg89)
    have z9 := hm9.size
    refine LoadP.var ti3 hb69 (px rfl (cT rfl (LoadP.fld hb29 ti202 rfl (LoadP.row (cs := [fv]) ti210 hb39 rfl ((c207 hw9 hgv9).mono ?_)))))
    rintro _ w10 ⟨hg10, ga2, gb2, hla2, hlb2, hla2', hlb2', rfl, hop2⟩
    have z10 := hg10.size
    have hw10 := hw9.grow hg10
    have hm010 := hm09.trans (Md.grow hg10)
    have hb210 := hb29.grow hg10
    have hgv10 := hgv9.grow hg10
    refine ⟨222, _, rfl, rfl, _, _, _, iter222 (F := F) (L := L) (base := base) (P := P) (g := g) (fv := fv) (s := s1) h1 hKs, by rintro k w' vs ⟨j, r, _, h, _⟩; rw [h]; rfl,
      fun k w' => Md (fun k => WS F k ∨ w10.heap.size ≤ k) w10 w' ∧ Wk L base F w' { s1 with s := shI g s1 F.cols k } ∧ GoalV L P w' fv g ∧ Blk w' g2 202 [.pointer (some ⟨F.g, 0, none⟩)] ∧ Blk w' ga2 202 [.pointer (some ⟨F.g, 0, none⟩)] ∧ Blk w' gb2 210 [fv],
      fun _ _ => False, ?_, ?_, ?_, ?_, fun _ _ h => h.elim⟩
    · intro w' hs
      rw [shI_zero hsh.shut]
      exact ⟨(Md.sys hs (Nat.le_refl _)).mono fun k hk => .inr hk, hw10.sys hs, hgv10.sys hs, hb210.sys hs, hop2.1.sys hs, hop2.2.1.sys hs⟩
    · rintro k w' ⟨_, hwk, hgvk, hb2k, hbak, hbbk⟩
      refine ⟨hbak, hbbk, hgvk, _, hwk, rfl, rfl, fun j hj hs => ?_, fun i j hi hij => ?_⟩
      · show (shI g s1 F.cols k).getD j true = true
        rw [shI_get hj, if_neg]
        · exact hs
        · intro hm; have := (opens_mem.1 (List.mem_of_mem_take hm)).2; rw [this] at hs; cases hs
      · have hjo := opens_mem.1 (List.mem_of_getElem? hij)
        show (shI g s1 F.cols k).getD j true = false
        rw [shI_get hjo.1, if_neg (not_mem_take opens_nodup hi hij)]
        exact hjo.2
    · rintro k hk x36 x37 w11 ⟨hm11, hwk, hgvk, hb2k, hbak, hbbk⟩ ⟨j, r, hj, hv, hr⟩
      simp only [List.cons.injEq, and_true] at hv
      obtain ⟨rfl, rfl⟩ := hv
      have hjc := (opens_mem.1 (List.mem_of_getElem? hj)).1
      have z11 := hm11.size
      refine AllocP.mk ti30 fun g11 w12 hg12 hl11 hl11' hb11 => storeR hb11 rfl (hr.grow hg12) fun w13 hm13 hr13 w14 hs14 => ?_
      have hg1113 : Grow w11 w13 := Md.new hg12 hm13 fun k hk => by omega
      have z1113 := hg1113.size
      have hw14 := (hwk.grow hg1113).sys hs14
      have hgv14 := (hgvk.grow hg1113).sys hs14
      have hb214 := (hb2k.grow hg1113).sys hs14
      have hba14 := (hbak.grow hg1113).sys hs14
      have hbb14 := (hbbk.grow hg1113).sys hs14
      have hr14 := hr13.sys hs14
      have hm14 : Md (fun k => WS F k ∨ w10.heap.size ≤ k) w10 w14 := (hm11.trans (Md.grow hg1113)).trans ((Md.sys hs14 (Nat.le_refl _)).mono fun k hk => .inr hk)
      have hjl : j < (shI g s1 F.cols k).length := by rw [shI_length]; exact hjc
      obtain ⟨gs, hgs, hids⟩ := hw14.shut.idx (k := .i64) hjl
      have hids' : indexAddrV (tyOf tyTab 94) F.vs (.int .i64 (j : Nat)) = _ := hids
      have hWl14 : ∀ k, WS F k → k < w.heap.size := hWl
      refine ⟨PhS (WS F), fun l w' => match l with | [] => True | _ => Md (WS F) w14 w' ∧ Wk L base F w' { s1 with s := shI g s1 F.cols (k + 1) }, PhS.grow _, PhS.trans _, fun _ _ => trivial,
        fun v _ => v = .pointer (some ⟨F.g, 0, none⟩), fun v _ => v = F.vs, fun v s' => QR true (L + s1.m.length * (2 * L + 1)) s'.2 v (cost g j s1), fun v _ => v = .int .i64 (vsgn (cost g j s1)), fun _ _ => True, ?_, ?_, ?_, ?_, ?_, ?_, ?_, ?_, ?_, ?_⟩
      · intro n w15 hn ht
        obtain ⟨rfl, hg⟩ := ht.z hn
        exact LoadP.fld (hb214.grow hg) ti202 rfl ⟨Grow.refl _, fun _ _ _ => rfl⟩
      · rintro _ n w15 hn ht rfl; exact ⟨_, rfl⟩
      · rintro _ n w15 hn ht rfl; exact ⟨_, rfl⟩
      · rintro _ n w15 hn ht rfl
        obtain ⟨rfl, hg⟩ := ht.z hn
        exact LoadP.fld (o := 4) (hw14.grow hg).blk ti94 rfl ⟨Grow.refl _, fun _ _ _ => rfl⟩
      · intro _ _ n w15 hn ht
        obtain ⟨rfl, hg⟩ := ht.z hn
        exact (hr14.grow hg).load fun r hr => ⟨Grow.refl _, fun m w16 ht => hr.md ht.md⟩
      · intro _ _ _ n w15 hn ht h43
        exact fg (q42 h43 (by omega)) fun r w5 m w6 hr ht => hr
      · rintro _ _ _ _ n w15 hn ht _ rfl; exact ⟨_, rfl⟩
      · rintro _ _ _ _ n w15 hn ht _ rfl _ _; exact ⟨_, hids'⟩
      · rintro _ v41 _ v44 n w15 hn ht rfl _ _ e41 _ e44
        have hg := ht.z0
        rw [e41, e44, hids']
        have ev : gd (binV (.int .i64) .neq (.int .i64 (vsgn (cost g j s1))) (.int .i64 0)) = .bool (decide (cost g j s1 ≠ 0)) := by
          show Value.bool (vsgn (cost g j s1) != 0) = _
          congr 1
          rw [Bool.eq_iff_iff, bne_iff_ne, decide_eq_true_iff, ne_eq, ne_eq, vsgn_zero]
        rw [ev]
        refine (hw14.grow hg).setS hjl hgs fun w16 hm16 hw16 => ⟨PhS.next hm16, fun _ _ _ => trivial, fun w17 hg17 => ⟨((Md.grow hg).trans hm16).trans (Md.grow hg17), ?_⟩⟩
        have := hw16.grow hg17
        simp only at this
        rw [shI_set hj] at this
        exact this
      · rintro _ _ _ _ _ _ w15 ht _ _ _ _ _ ⟨hm15, hw15⟩ w16 hs16
        have z14 := hm14.size
        have hnW : ∀ {k : Nat}, w.heap.size ≤ k → ¬ WS F k := fun hk h => by have := hWl _ h; omega
        exact ⟨(hm14.trans (hm15.mono fun k hk => .inl hk)).trans ((Md.sys hs16 (Nat.le_refl _)).mono fun k hk => .inr hk), hw15.sys hs16, (hgv14.md hm15 hP).sys hs16, (hb214.md hm15 (hnW hl2)).sys hs16, (hba14.md hm15 (hnW (by omega))).sys hs16, (hbb14.md hm15 (hnW (by omega))).sys hs16⟩
    · rintro w11 ⟨hm11, hwk, _⟩ w12 hs12
      rw [shI_end] at hwk
      refine ⟨Md_restr ((hm010.trans (hm11.mono fun k hk => hk.imp id fun h => by omega)).trans ((Md.sys hs12 (Nat.le_refl _)).mono fun k hk => .inr hk)), ?_, by subst e2; rfl⟩
      rw [← e1]; exact hwk.sys hs12
  · -- a column enters
    rintro j w9 ⟨rfl, hm9, i, hic, hb69, hent⟩
    have z9 := hm9.size
    have hg39 : Grow w3 w9 := Md.new hg38 hm9 fun k hk => by omega
    have hw9 := hw3.grow hg39
    have hgv9 := hgv3.grow hg39
    have hb29 := hb23.grow hg39
    have hb39 := hb33.grow hg39
    have hm09 := hm3.trans (Md.grow hg39)
    have z39 := hg39.size
    rw [climb, hent] at hcl1
    simp only at hcl1
    change (if (2 : Nat) = 2 then _ else False)
    rw [if_pos rfl]
    refine LoadP.var ti3 hb69 (px rfl (cF (by simp) (LoadP.fld hb29 ti202 rfl (LoadP.var ti3 hb69 ((c208 hw9 hic h1 (by omega)).mono ?_)))))
    rintro _ w10 ⟨hg10, rfl⟩
    have z10 := hg10.size
    have hw10 := hw9.grow hg10
    have hb610 := hb69.grow hg10
    cases hlv : leave i s1 with
    | none =>
      rw [hlv] at hcl1
      simp only [Option.some.injEq, Prod.mk.injEq] at hcl1
      obtain ⟨e1, e2⟩ := hcl1
      refine px rfl (cT rfl (LoadP.var ti3 hb610 fun w11 hs11 => ?_))
      refine ⟨Md_restr ((hm09.trans (Md.grow hg10)).trans ((Md.sys hs11 (Nat.le_refl _)).mono fun k hk => .inr hk)), ?_, by subst e2; rfl⟩
      rw [← e1]; exact hw10.sys hs11
    | some r =>
      rw [hlv] at hcl1
      simp only [pivotC] at hcl1
      split at hcl1
      · rename_i hok
        simp only [Option.bind_some] at hcl1
        -- the row that leaves holds a positive number
        have hrl : r < s1.m.length ∧ Spx.mat s1.m r i ≠ 0 := leave_spec hlv
        refine px rfl (cF (by simp) (LoadP.fld (hb29.grow hg10) ti202 rfl (LoadP.var ti3 hb610 ((c201 hw10 hrl.1 hic hrl.2 h1 h2 (by omega)).mono ?_))))
        rintro _ w11 ⟨hm11, hw11⟩
        have hw11' := hw11.refit hok
        have z11 := hm11.size
        have hnW : ∀ {k : Nat}, w.heap.size ≤ k → ¬ WS F k := fun hk h => by have := hWl _ h; omega
        have hpn : (pivot r i s1).n = s1.n + 1 := rfl
        refine ⟨⟨rfl, rfl, f, _, hcl1, by rw [hpn]; omega, ?_, hw11', (hgv9.grow hg10).md hm11 hP, (hb29.grow hg10).md hm11 (hnW hl2), (hb39.grow hg10).md hm11 (hnW (by omega)), (hm09.trans (Md.grow hg10)).trans (hm11.mono fun k hk => .inl hk), by omega⟩, ?_⟩
        · have e1 := hw11'.shape.basis
          have e2 : (pivot r i s1).b.length = s1.b.length := by simp [pivot]
          rw [← e1, e2, hw10.shape.basis, hml]
        · show fuel + s.n - nOf w11 F.g < fuel + s.n - nOf w3 F.g
          rw [hw11'.nOf, hw3.nOf, hpn]; omega
      · cases hcl1
end
end Lx
end Go.Proofs.YtaajkcngcalgoaaGreat
namespace Go.Proofs.YtaajkcngcalgoaaGreat
namespace Lx
open Go Go.Vc Go.Spx
attribute [local irreducible] Tryz.prog
theorem climb_n {L cols : Nat} {g : Goal} : ∀ (f : Nat) (s s' : St) (o : Option Nat), climb L cols g f s = some (s', o) → s'.n ≤ s.n + f ∧ s'.m.length = s.m.length ∨ False
  | 0, s, s', o, h => by simp [climb] at h
  | f + 1, s, s', o, h => by
    unfold climb at h
    split at h
    · simp only [Option.some.injEq, Prod.mk.injEq] at h
      obtain ⟨rfl, _⟩ := h
      exact .inl ⟨by simp, rfl⟩
    · split at h
      · simp only [Option.some.injEq, Prod.mk.injEq] at h
        obtain ⟨rfl, _⟩ := h
        exact .inl ⟨by omega, rfl⟩
      · unfold pivotC at h
        split at h
        · simp only [Option.bind_some] at h
          rcases climb_n f _ s' o h with ⟨h1, h2⟩ | h
          · have e1 : ∀ i k, (pivot i k s).n = s.n + 1 := fun _ _ => rfl
            have e2 : ∀ i k, (pivot i k s).m.length = s.m.length := fun i k => by simp [pivot, clearM_eq]
            rw [e1] at h1
            rw [e2] at h2
            exact .inl ⟨by omega, h2⟩
          · exact h.elim
        · cases h
theorem drive_n {L more : Nat} : ∀ (k i : Nat) (s s' : St) (b : Bool), drive L more k i s = some (s', b) → s'.n ≤ s.n + k ∧ s'.m.length = s.m.length
  | 0, i, s, s', b, h => by simp only [drive, Option.some.injEq, Prod.mk.injEq] at h; obtain ⟨rfl, _⟩ := h; exact ⟨by omega, rfl⟩
  | k + 1, i, s, s', b, h => by
    unfold drive at h
    split at h
    · have := drive_n k (i + 1) s s' b h; exact ⟨by omega, this.2⟩
    · split at h
      · simp only [Option.some.injEq, Prod.mk.injEq] at h; obtain ⟨rfl, _⟩ := h; exact ⟨by omega, rfl⟩
      · split at h
        · have := drive_n k (i + 1) s s' b h; exact ⟨by omega, this.2⟩
        · rename_i c _
          unfold pivotC at h
          split at h
          · simp only [Option.bind_some] at h
            have := drive_n k (i + 1) _ s' b h
            have e1 : (pivot i c s).n = s.n + 1 := rfl
            have e2 : (pivot i c s).m.length = s.m.length := by simp [pivot, clearM_eq]
            rw [e1, e2] at this
            exact ⟨by omega, this.2⟩
          · cases h
section
variable {c c' d : Bool} {L M K base n : Nat} {w w' w'' : World} {v o u a b q fv : Value} {x y z : Rat} {xs ys row : List Rat} {m m' : List (List Rat)} {S P P' Q Q' : Nat → Prop} {cs vs : List Value} {s s' : St} {F : Wf} {g : Goal}
theorem set_map_range {N k : Nat} {f : Nat → Bool} {l : List Bool} (hl : l.length = N) (hk : k < N) : ((List.range N).map fun j => if j < k then f j else l.getD j true).set k (f k) = (List.range N).map fun j => if j < k + 1 then f j else l.getD j true := by
  apply List.ext_getElem?
  intro i
  rw [List.getElem?_set]
  by_cases hi : i < N
  · rw [List.getElem?_map, List.getElem?_map, List.getElem?_range hi]
    by_cases e : k = i
    · subst e; simp [hi]
    · have : (i < k + 1) ↔ (i < k) := by omega
      rw [if_neg e]; simp only [Option.map_some, this]
  · rw [List.getElem?_eq_none (l := (List.range N).map _) (by simp; omega)]
    rw [if_neg (by omega), List.getElem?_eq_none (by simp; omega)]
theorem map_range_zero {N : Nat} {f : Nat → Bool} {l : List Bool} (hl : l.length = N) : ((List.range N).map fun j => if j < 0 then f j else l.getD j true) = l := by
  apply List.ext_getElem?
  intro i
  by_cases hi : i < N
  · rw [List.getElem?_map, List.getElem?_range hi]
    simp only [Nat.not_lt_zero, if_false, Option.map_some]
    rw [List.getD_eq_getElem?_getD, List.getElem?_eq_getElem (by omega)]; rfl
  · rw [List.getElem?_eq_none (by simp; omega), List.getElem?_eq_none (by omega)]
theorem c164 {fuel more : Nat} {bb : Bool} (hw : Wk L base F w s) (hF : F.cols = more + 1) (hc : feasible L fuel more s = some (s', bb)) (h1 : 2 ≤ L) (h2 : 4 * L + 6 ≤ 134217728) (h3 : L + (s.m.length + 1) * (2 * L + 1) ≤ 268435456) (hn : s.n + fuel + s.m.length < 4611686018427387904) :
    CallP CC 164 [.pointer (some ⟨F.g, 0, none⟩), .int .i64 (more : Nat)] w fun r w' => Md (WS F) w w' ∧ Wk L base F w' s' ∧ r = .bool bb := by
  have hWl : ∀ k, WS F k → k < w.heap.size := fun k hk => (hw.lt hk).2
  have hcl : F.cols ≤ 1048576 := hw.shape.lim.2.1
  apply call164
  refine BoxP.mk fun g3 w1 hg1 hl3 hl3' hb3 => px rfl (px rfl ?_)
  have hb3 : Blk w1 g3 3 [.int .i64 (more : Nat)] := by simpa [Value.cells] using hb3
  have z1 := hg1.size
  have hnW3 : ¬ WS F g3 := fun h => by have := hWl _ h; omega
  unfold feasible at hc
  cases hcb : climb L (more + 1) (artG more) fuel s with
  | none => rw [hcb] at hc; cases hc
  | some so =>
  obtain ⟨s1, o1⟩ := so
  rw [hcb] at hc
  simp only [Option.bind_some, Option.map_eq_some_iff] at hc
  obtain ⟨⟨s3, b3⟩, hdr, hfin⟩ := hc
  have hgv : GoalV L (fun k => k = g3) w1 (.func (.func 203) #[] #[.pointer (some ⟨g3, 0, none⟩)]) (artG more) := .inl ⟨203, g3, more, .inl rfl, rfl, hb3, rfl, rfl⟩
  have hn1 := climb_n _ _ _ _ hcb
  have hn1 : s1.n ≤ s.n + fuel ∧ s1.m.length = s.m.length := by rcases hn1 with h | h; exact h; exact h.elim
  refine (c167 (hw.grow hg1) hgv (by rintro k rfl; exact hnW3) (by rintro k rfl; exact hl3') (by rw [hF]; exact hcb) h1 h2 h3 (by omega)).mono ?_
  rintro _ w3 ⟨hm3, hw3, rfl⟩
  have hb33 := hb3.md hm3 hnW3
  have hm03 : Md (fun k => WS F k ∨ w.heap.size ≤ k) w w3 := (Md.grow hg1).trans (hm3.mono fun k hk => .inl hk)
  refine px rfl (px rfl (px rfl (LoadP.fld (o := 2) hw3.blk ti67 rfl (px hw3.basis.len ?_))))
  have hbl : s1.b.length = s1.m.length := hw3.shape.basis
  refine ⟨fun v w' => ∃ i s2, v = .int .i64 ((i : Nat) : Int) ∧ i ≤ s1.b.length ∧ drive L more (s1.b.length - i) i s2 = some (s3, b3) ∧ Wk L base F w' s2 ∧ s2.m.length = s.m.length ∧ s2.n ≤ s.n + fuel + i ∧ Md (fun k => WS F k ∨ w.heap.size ≤ k) w w' ∧ Blk w' g3 3 [.int .i64 (more : Nat)], fun v _ => s1.b.length - (vint v).toNat,
    ⟨0, s1, rfl, by omega, by simpa using hdr, hw3, hn1.2, by omega, hm03, hb33⟩, ?_⟩
  rintro _ - w4 ⟨i, s2, rfl, hi, hdr2, hw4, hml, hnn, hm4, hb34⟩
  have hsh := hw4.shape
  have hlim := hsh.lim
  refine px rfl (cD (fun hlt => ?_) (fun hge => ?_))
  · have hlt' : i < s1.b.length := by omega
    have him : i < s2.m.length := by rw [hml, ← hn1.2, ← hbl]; exact hlt'
    have hib : i < s2.b.length := by rw [hsh.basis]; exact him
    have hir : i < s2.r.length := by rw [hsh.right]; exact him
    have ek : s1.b.length - i = (s1.b.length - (i + 1)) + 1 := by omega
    rw [ek] at hdr2
    unfold drive at hdr2
    obtain ⟨gb, hgb, hidb⟩ := hw4.basis.idx (k := .i64) hib
    refine px hidb (hw4.basis.load (C := CC) rfl hgb hib (LoadP.var ti3 hb34 ?_))
    have bne : (((s2.b.getD i 0 : Nat) : Int) != ((more : Nat) : Int)) = decide (s2.b.getD i 0 ≠ more) := by
      rw [Bool.eq_iff_iff, bne_iff_ne, decide_eq_true_iff]; omega
    refine px rfl ?_
    rw [bne]
    refine cD (fun hne => ?_) (fun heq => ?_)
    · rw [if_pos hne] at hdr2
      exact pi rfl (by omega) ⟨⟨i + 1, s2, by simp, by omega, hdr2, hw4, hml, by omega, hm4, hb34⟩, by simp only [vint_int]; omega⟩
    · rw [if_neg heq] at hdr2
      obtain ⟨gr, hgr, hidr⟩ := hw4.right.idx (k := .i64) hir
      refine px rfl (px rfl (px rfl (LoadP.fld (o := 1) hw4.blk ti23 rfl (px hidr (hw4.right.load (C := CC) rfl hgr hir fun r hr => (q42 hr h1).mono ?_)))))
      rintro _ w9 ⟨hg9, rfl⟩
      have hw9 := hw4.grow hg9
      have hb39 := hb34.grow hg9
      have hm9 := hm4.trans (Md.grow hg9)
      refine px rfl (cD (fun hpos => ?_) (fun hnp => ?_))
      · have hpos' : 0 < qat s2.r i := vsgn_pos.1 hpos
        rw [if_pos hpos'] at hdr2
        simp only [Option.some.injEq, Prod.mk.injEq] at hdr2
        obtain ⟨rfl, rfl⟩ := hdr2
        simp only [Bool.false_eq_true, if_false, Prod.mk.injEq] at hfin
        obtain ⟨rfl, rfl⟩ := hfin
        exact ⟨Md_restr hm9, hw9, rfl⟩
      · have hnp' : ¬ 0 < qat s2.r i := fun h => hnp (vsgn_pos.2 h)
        rw [if_neg hnp'] at hdr2
        refine LoadP.var ti3 hb39 ?_
        refine ⟨fun v w' => ∃ k : Nat, v = .int .i64 k ∧ k ≤ more ∧ Grow w9 w' ∧ ∀ j < k, Spx.mat s2.m i j = 0, fun v _ => more - (vint v).toNat, ⟨0, rfl, by omega, Grow.refl _, fun j hj => by omega⟩, ?_⟩
        rintro _ - w11 ⟨k, rfl, hk, hg11, h0⟩
        have hw11 := hw9.grow hg11
        have hb311 := hb39.grow hg11
        have hm11 := hm9.trans (Md.grow hg11)
        refine px rfl (cD (fun hlk => ?_) (fun hgk => ?_))
        · have hlk' : k < more := by omega
          have hrl : (Spx.rowAt s2.m i).length = F.cols := hsh.row _ (rowAt_mem him)
          have hcl' : k < (Spx.rowAt s2.m i).length := by omega
          obtain ⟨gm, hgm, hidm⟩ := hw11.mat.idx (k := .i64) him
          refine px rfl (px rfl (px rfl (LoadP.fld (o := 0) hw11.blk ti22 rfl (px hidm (hw11.mat.load (C := CC) rfl hgm him fun ur hur => ?_)))))
          obtain ⟨ad, had⟩ := hur.idx (k := .i64) hcl'
          refine px had (hur.load had (qat_get hcl') fun re hre => (q42 hre h1).mono ?_)
          rintro _ w15 ⟨hg15, rfl⟩
          have hw15 := hw11.grow hg15
          refine px rfl (cB (fun hnz => ?_) (fun hz => ?_))
          · have hnz' : Spx.mat s2.m i k ≠ 0 := sgnT hnz
            have hfd : (List.range more).find? (fun c => decide (Spx.mat s2.m i c ≠ 0)) = some k := by
              refine find_at (k := k) (by rw [List.getElem?_range hlk']) (fun j hj => ?_) (by simpa using hnz')
              rw [List.take_range] at hj
              have : j < k := by simp at hj; omega
              simpa using h0 j this
            rw [hfd] at hdr2
            simp only [pivotC] at hdr2
            split at hdr2
            · rename_i hok
              simp only [Option.bind_some] at hdr2
              refine (c201 hw15 him (by omega) hnz' h1 h2 (by omega)).mono ?_
              rintro _ w16 ⟨hm16, hw16⟩
              have e1 : (pivot i k s2).n = s2.n + 1 := rfl
              have e2 : (pivot i k s2).m.length = s2.m.length := by simp [pivot, clearM_eq]
              exact pi rfl (by omega) ⟨⟨i + 1, _, by simp, by omega, hdr2, hw16.refit hok, by rw [e2]; exact hml, by rw [e1]; omega, (hm11.trans (Md.grow hg15)).trans (hm16.mono fun k hk => .inl hk), (hb311.grow hg15).md hm16 hnW3⟩, by simp only [vint_int]; omega⟩
            · cases hdr2
          · have hz' : Spx.mat s2.m i k = 0 := Classical.not_not.1 (sgnF hz)
            refine pi rfl (by omega) ⟨⟨k + 1, by simp, by omega, hg11.trans hg15, fun j hj => ?_⟩, by simp only [vint_int]; omega⟩
            by_cases e : j = k
            · subst e; exact hz'
            · exact h0 j (by omega)
        · have : k = more := by omega
          subst this
          have hfd : (List.range k).find? (fun c => decide (Spx.mat s2.m i c ≠ 0)) = none := by
            rw [List.find?_eq_none]
            intro j hj
            have : j < k := by simpa using hj
            simpa using h0 j this
          rw [hfd] at hdr2
          exact pi rfl (by omega) ⟨⟨i + 1, s2, by simp, by omega, hdr2, hw11, hml, by omega, hm11, hb311⟩, by simp only [vint_int]; omega⟩
  · have : i = s1.b.length := by omega
    subst this
    rw [Nat.sub_self] at hdr2
    simp only [drive, Option.some.injEq, Prod.mk.injEq] at hdr2
    obtain ⟨rfl, rfl⟩ := hdr2
    simp only [if_true, Prod.mk.injEq] at hfin
    obtain ⟨rfl, rfl⟩ := hfin
    have hsl : s2.s.length = more + 1 := by rw [hsh.shut, hF]
    refine px rfl (px rfl (LoadP.fld (o := 4) hw4.blk ti94 rfl (px hw4.shut.len ?_)))
    rw [hsl]
    refine ⟨fun v w' => ∃ k : Nat, v = .int .i64 k ∧ k ≤ more + 1 ∧ Md (fun k => WS F k ∨ w.heap.size ≤ k) w w' ∧ Wk L base F w' { s2 with s := (List.range (more + 1)).map fun j => if j < k then decide (j = more) else s2.s.getD j true } ∧ Blk w' g3 3 [.int .i64 (more : Nat)], fun v _ => more + 1 - (vint v).toNat,
      ⟨0, rfl, by omega, hm4, by rw [map_range_zero hsl]; exact hw4, hb34⟩, ?_⟩
    rintro _ - w18 ⟨k, rfl, hk, hm18, hw18, hb318⟩
    refine px rfl (cD (fun hlk => ?_) (fun hgk => ?_))
    · have hlk' : k < more + 1 := by omega
      obtain ⟨gs, hgs, hids⟩ := hw18.shut.idx (k := .i64) (i := k) (by simp; omega)
      have hids' : indexAddrV (tyOf tyTab 94) F.vs (.int .i64 (k : Nat)) = _ := hids
      refine ⟨PhS (WS F), fun l w' => match l with | [] => True | _ => Md (WS F) w18 w' ∧ Wk L base F w' { s2 with s := (List.range (more + 1)).map fun j => if j < k + 1 then decide (j = more) else s2.s.getD j true }, PhS.grow _, PhS.trans _, fun _ _ => trivial,
        fun v _ => v = F.vs, fun v _ => v = .int .i64 (more : Nat), fun _ _ => True, ?_, ?_, ?_, ?_, ?_, ?_, ?_, ?_⟩
      · exact fun _ _ _ _ => ⟨_, rfl⟩
      · exact fun _ _ _ _ => ⟨_, rfl⟩
      · intro n w19 hn ht
        obtain ⟨rfl, hg⟩ := ht.z hn
        exact LoadP.fld (o := 4) (hw18.grow hg).blk ti94 rfl ⟨Grow.refl _, fun _ _ _ => rfl⟩
      · intro _ n w19 hn ht
        obtain ⟨rfl, hg⟩ := ht.z hn
        exact LoadP.var ti3 (hb318.grow hg) ⟨Grow.refl _, fun _ _ _ => rfl⟩
      · rintro _ _ n w19 hn ht rfl; exact ⟨_, rfl⟩
      · rintro _ _ n w19 hn ht rfl _; exact ⟨_, hids'⟩
      · rintro _ _ n w19 hn ht rfl _ e71 e74
        have hg := ht.z0
        rw [e71, e74, hids']
        have ev : gd (binV (.int .i64) .eql (.int .i64 (k : Nat)) (.int .i64 (more : Nat))) = .bool (decide (k = more)) := by
          show Value.bool (((k : Nat) : Int) == ((more : Nat) : Int)) = _
          congr 1
          rw [Bool.eq_iff_iff, beq_iff_eq, decide_eq_true_iff]; omega
        rw [ev]
        refine (hw18.grow hg).setS (by simp; omega) hgs fun w20 hm20 hw20 => ⟨PhS.next hm20, fun _ _ _ => trivial, fun w21 hg21 => ⟨((Md.grow hg).trans hm20).trans (Md.grow hg21), ?_⟩⟩
        have := hw20.grow hg21
        simp only at this
        rw [set_map_range (f := fun j => decide (j = more)) hsl hlk'] at this
        exact this
      · rintro _ _ _ _ w19 ht _ _ _ ⟨hm19, hw19⟩
        exact pi rfl (by omega) ⟨⟨k + 1, by simp, by omega, hm18.trans (hm19.mono fun k hk => .inl hk), hw19, hb318.md hm19 hnW3⟩, by simp only [vint_int]; omega⟩
    · have : k = more + 1 := by omega
      subst this
      refine ⟨Md_restr hm18, ?_, rfl⟩
      have e : ((List.range (more + 1)).map fun j => if j < more + 1 then decide (j = more) else s2.s.getD j true) = (List.range (more + 1)).map fun k => decide (k = more) := by
        refine List.map_congr_left fun j hj => ?_
        rw [if_pos (by simpa using hj)]
      rw [e] at hw18
      exact hw18
end
end Lx
end Go.Proofs.YtaajkcngcalgoaaGreat
namespace Go.Vc
open Go
def PhB (S : Nat → Prop) (g : Nat) (e : TypeId) (N : Nat) (a b : Nat × World) : Prop := (a.1 = b.1 ∧ Grow a.2 b.2) ∨ (a.1 < b.1 ∧ Md S a.2 b.2 ∧ (b.1 ≤ N → ∀ cs, Blk a.2 g e cs → Blk b.2 g e cs))
section
variable {S : Nat → Prop} {g n m N : Nat} {e : TypeId} {a b w w' : World} {cs : List Value}
theorem PhB.grow (S : Nat → Prop) (g : Nat) (e : TypeId) (N n : Nat) (a b : World) (h : Grow a b) : PhB S g e N (n, a) (n, b) := .inl ⟨rfl, h⟩
theorem PhB.trans (S : Nat → Prop) (g : Nat) (e : TypeId) (N : Nat) (a b c : Nat × World) (h : PhB S g e N a b) (h' : PhB S g e N b c) : PhB S g e N a c := by
  rcases h with ⟨e1, g1⟩ | ⟨h, g1, k1⟩ <;> rcases h' with ⟨e', g'⟩ | ⟨h', g', k'⟩
  · exact .inl ⟨e1.trans e', g1.trans g'⟩
  · exact .inr ⟨e1 ▸ h', (Md.grow g1).trans g', fun hN cs hb => k' hN cs (hb.grow g1)⟩
  · exact .inr ⟨e' ▸ h, g1.trans (Md.grow g'), fun hN cs hb => (k1 (by omega) cs hb).grow g'⟩
  · exact .inr ⟨Nat.lt_trans h h', g1.trans g', fun hN cs hb => k' hN cs (k1 (by omega) cs hb)⟩
theorem PhB.md (h : PhB S g e N (n, a) (m, b)) : Md S a b := by
  rcases h with ⟨_, g⟩ | ⟨_, g, _⟩
  · exact Md.grow g
  · exact g
theorem PhB.blk (h : PhB S g e N (n, a) (m, b)) (hm : m ≤ N) (hb : Blk a g e cs) : Blk b g e cs := by
  rcases h with ⟨_, g⟩ | ⟨_, _, k⟩
  · exact hb.grow g
  · exact k hm cs hb
theorem PhB.z (h : PhB S g e N (0, a) (n, b)) (hn : n ≤ 0) : n = 0 ∧ Grow a b := by
  rcases h with ⟨e, g⟩ | ⟨h, _⟩
  · exact ⟨e.symm, g⟩
  · have : 0 < n := h; omega
theorem PhB.next (h : Md S a b) (hk : n + 1 ≤ N → ∀ cs, Blk a g e cs → Blk b g e cs) : PhB S g e N (n, a) (n + 1, b) := .inr ⟨Nat.lt_succ_self n, h, hk⟩
theorem One.down {s : Value} {b1 b2 : Nat} (h : One b1 e w s cs) (hb : b2 ≤ b1) : One b2 e w s cs := by
  obtain ⟨g, h1, h2, h3⟩ := h
  exact ⟨g, Nat.le_trans hb h1, h2, h3⟩
theorem One.grow {s : Value} {b1 : Nat} (h : One b1 e w s cs) (hg : Grow w w') : One b1 e w' s cs := by
  obtain ⟨g, h1, h2, h3⟩ := h
  exact ⟨g, h1, h2, h3.grow hg⟩
theorem fgT {C : Ctx} {f : FuncId} {args : List Value} {P : Value → World → Prop} {A : Value → Nat → World → Prop} {T : Nat × World → Nat × World → Prop} (h : CallP C f args w fun r w' => Grow w w' ∧ P r w') (hs : ∀ r w' m w'', P r w' → T (n, w') (m, w'') → A r m w'') :
    CallP C f args w fun r w' => Grow w w' ∧ ∀ m w'', T (n, w') (m, w'') → A r m w'' :=
  h.mono fun r w' ⟨hg, hp⟩ => ⟨hg, fun m w'' ht => hs r w' m w'' hp ht⟩
end
end Go.Vc
namespace Go.Proofs.YtaajkcngcalgoaaGreat
open Go Go.Vc Go.Spx
attribute [local irreducible] Tryz.prog
section
variable {c c' d : Bool} {L M K base n : Nat} {w w' w'' : World} {v o u a b q : Value} {x y z : Rat} {xs ys row : List Rat} {m m' : List (List Rat)} {S P P' Q Q' : Nat → Prop} {cs vs : List Value} {p : Lp}
theorem Mat.md2 (h : Mat c L P P' w v m) (hm : Md S w w') (hn : ∀ k, P k → S k → ∀ c fr, w.heap[k]? ≠ some (.cells c 23 fr)) (hn' : ∀ k, P' k → S k → ∀ c fr, w.heap[k]? ≠ some (.cells c 30 fr)) : Mat c L P P' w' v m := by
  obtain ⟨vs, h1, h2⟩ := h
  refine ⟨vs, ⟨h1.1, ?_⟩, h2.md2 hm hn'⟩
  rcases h1.2 with h | ⟨g, off, cap, hv, hl, hpg, c, fr, hg, hc⟩
  · exact .inl h
  · exact .inr ⟨g, off, cap, hv, hl, hpg, c, fr, hm.upd.block g _ (fun hs => hn g hpg hs c fr hg) hg, hc⟩
theorem appI1 {K : Value → World → Prop} {base' k : Nat} {l : List Nat} {s : Value} (ho : IntO base w o l) (h1 : One base' 3 w s [.int .i64 (k : Nat)]) (hb : base ≤ w.heap.size) (hn : l.length < 1099511627776)
    (hk : ∀ o' w', IntO base w' o' (l ++ [k]) → Md (fun g => o.ownBlock = some g) w w' → (∀ g, o'.ownBlock = some g → o.ownBlock = some g ∨ w.heap.size ≤ g) → K o' w') :
    AppendP CC #[67, 67] 67 [o, s] w K := by
  refine AppendP.one (C := CC) (sz := 1) sl67 ti3 rfl (by decide) ho h1 rfl (by simp [Value.oneCell']) (by omega) (by simp only [maxLen]; omega) hb (by decide) fun o' w' ho' hm hf => ?_
  refine hk o' w' ?_ hm hf
  unfold IntO
  simpa using ho'
theorem litI {K : Value → World → Prop} {k : Nat} (hk : ∀ s w', Grow w w' → One w.heap.size 3 w' s [.int .i64 (k : Nat)] → K s w') : LitP CC 67 1 [(0, .int .i64 (k : Nat))] w K :=
  LitP.one (C := CC) (sz := 1) sl67 ti3 rfl (by decide) (by decide) rfl fun s w' hg h1 => hk s w' hg h1
theorem litV2 {P : Nat → Prop} {K : Value → World → Prop} (hv : Vec c L P w u row) (hk : ∀ s w', Grow w w' → One w.heap.size 23 w' s [u] → K s w') : LitP CC 22 1 [(0, u)] w K := litV (C := CC) rfl hv hk
theorem IntO.nil : IntO base w (.slice none 0 0) [] := Vc.Own.nil _ _ _ _
end
theorem colsOf_all {m : List (List Rat)} {n : Nat} (h0 : m ≠ []) (h : ∀ r ∈ m, r.length = n) : colsOf m = n := by
  have h1 : ∀ r ∈ m, r.length ≤ colsOf m := fun r hr => le_colsOf hr
  obtain ⟨r, hr⟩ := List.exists_mem_of_ne_nil m h0
  have h2 := h1 r hr
  rw [h r hr] at h2
  have h3 : colsOf m ≤ n := by
    have key : ∀ (l : List (List Rat)) (a : Nat), a ≤ n → (∀ r ∈ l, r.length = n) → l.foldl (fun n r => max n r.length) a ≤ n := by
      intro l
      induction l with
      | nil => intro a ha _; exact ha
      | cons x l ih => intro a ha hl; exact ih _ (by have := hl x (by simp); show max a x.length ≤ n; omega) fun r hr => hl r (by simp [hr])
    exact key m 0 (Nat.zero_le _) h
  omega
theorem grid_row {R C i : Nat} {f : Nat → Nat → Rat} (hi : i < R) : Spx.rowAt (grid R C f) i = (List.range C).map (f i) := by
  unfold Spx.rowAt grid
  rw [List.getD_eq_getElem?_getD, List.getElem?_map, List.getElem?_range hi]; rfl
theorem grid_mat {R C i k : Nat} {f : Nat → Nat → Rat} (hi : i < R) (hk : k < C) : Spx.mat (grid R C f) i k = f i k := by
  unfold Spx.mat
  rw [grid_row hi]
  unfold qat
  rw [List.getD_eq_getElem?_getD, List.getElem?_map, List.getElem?_range hk]; rfl
theorem grid_cols {R C : Nat} {f : Nat → Nat → Rat} (hR : 0 < R) : colsOf (grid R C f) = C :=
  colsOf_all (by unfold grid; intro h; have := congrArg List.length h; simp at this; omega) fun r hr => by
    unfold grid at hr
    obtain ⟨i, _, rfl⟩ := List.mem_map.1 hr
    simp
theorem grid_length {R C : Nat} {f : Nat → Nat → Rat} : (grid R C f).length = R := by simp [grid]
theorem ident_length {N : Nat} : (ident N).length = N := by simp [ident]
theorem ident_cols {N : Nat} (hN : 0 < N) : colsOf (ident N) = N :=
  colsOf_all (by unfold ident; intro h; have := congrArg List.length h; simp at this; omega) fun r hr => by
    unfold ident at hr
    obtain ⟨i, _, rfl⟩ := List.mem_map.1 hr
    simp [unit]
theorem ident_mat {N i k : Nat} (hi : i < N) (hk : k < N) : Spx.mat (ident N) i k = if k = i then 1 else 0 := by
  unfold Spx.mat Spx.rowAt ident
  rw [List.getD_eq_getElem?_getD, List.getElem?_map, List.getElem?_range hi]
  simp only [Option.map_some, gd, Option.getD_some]
  unfold qat unit
  rw [List.getD_eq_getElem?_getD, List.getElem?_map, List.getElem?_range hk]
  simp only [Option.map_some, gd, Option.getD_some]
  congr 1
  exact propext ⟨fun h => by omega, fun h => by omega⟩
theorem resize_length {a : List Rat} {n : Nat} : (resize a n).length = n := by simp [resize]
theorem resize_at {a : List Rat} {n i : Nat} (hi : i < n) : qat (resize a n) i = qat a i := by
  unfold qat resize
  rw [List.getD_eq_getElem?_getD, List.getElem?_map, List.getElem?_range hi]; rfl
def allM (n m : Nat) (rows : List (List Rat)) : List (List Rat) := concat (concat (grid m n (Spx.mat rows)) (ident m)) (List.replicate m [-1])
theorem concat_length {a b : List (List Rat)} : (concat a b).length = max a.length b.length := by simp [concat, grid]
theorem allM_length {n m : Nat} {rows : List (List Rat)} : (allM n m rows).length = m := by
  unfold allM
  rw [concat_length, concat_length, grid_length, ident_length, List.length_replicate]; omega
theorem allM_row {n m i : Nat} {rows : List (List Rat)} (hi : i < m) : resize (Spx.rowAt (allM n m rows) i) (n + m + 1) = row0 n m rows i := by
  have hm : 0 < m := by omega
  have c1 : colsOf (grid m n (Spx.mat rows)) = n := grid_cols hm
  have c2 : colsOf (ident m) = m := ident_cols hm
  have l1 : max (grid m n (Spx.mat rows)).length (ident m).length = m := by rw [grid_length, ident_length]; omega
  have e1 : concat (grid m n (Spx.mat rows)) (ident m) = grid m (n + m) fun i k => if k < n then Spx.mat (grid m n (Spx.mat rows)) i k else Spx.mat (ident m) i (k - n) := by
    unfold concat; rw [c1, c2, l1]
  have c3 : colsOf (concat (grid m n (Spx.mat rows)) (ident m)) = n + m := by rw [e1, grid_cols hm]
  have c4 : colsOf (List.replicate m [(-1 : Rat)]) = 1 := colsOf_all (by intro h; have := congrArg List.length h; simp at this; omega) fun r hr => by rw [List.eq_of_mem_replicate hr]; rfl
  have l2 : max (concat (grid m n (Spx.mat rows)) (ident m)).length (List.replicate m [(-1 : Rat)]).length = m := by rw [concat_length, l1, List.length_replicate]; omega
  have e2 : allM n m rows = grid m (n + m + 1) fun i k => if k < n + m then Spx.mat (concat (grid m n (Spx.mat rows)) (ident m)) i k else Spx.mat (List.replicate m [(-1 : Rat)]) i (k - (n + m)) := by
    show concat (concat (grid m n (Spx.mat rows)) (ident m)) (List.replicate m [-1]) = _
    conv => lhs; unfold concat
    have c3' := c3
    have l2' := l2
    unfold concat at c3' l2'
    rw [c3', c4, l2']
    rfl
  rw [e2]
  unfold resize row0
  refine List.map_congr_left fun k hk => ?_
  have hk' : k < n + m + 1 := by simpa using hk
  rw [show qat (Spx.rowAt (grid m (n + m + 1) _) i) k = Spx.mat (grid m (n + m + 1) _) i k from rfl, grid_mat hi hk']
  by_cases h1 : k < n
  · rw [if_pos (by omega), if_pos h1, e1, grid_mat hi (by omega), if_pos h1, grid_mat hi h1]
  · rw [if_neg h1]
    by_cases h2 : k < n + m
    · rw [if_pos h2, if_pos h2, e1, grid_mat hi h2, if_neg h1, ident_mat hi (by omega)]
    · rw [if_neg h2, if_neg h2]
      have : k - (n + m) = 0 := by omega
      rw [this]
      unfold Spx.mat Spx.rowAt
      rw [List.getD_eq_getElem?_getD, List.getElem?_replicate, if_pos hi]; rfl
theorem row0_length {n m i : Nat} {rows : List (List Rat)} : (row0 n m rows i).length = n + m + 1 := by simp [row0]
theorem leastIdx_snoc (all : List Rat) : ∀ (r : List Rat) (i l : Nat) (x : Rat), leastIdx all i l (r ++ [x]) = if x < qat all (leastIdx all i l r) then i + r.length else leastIdx all i l r
  | [], i, l, x => by
    by_cases h : x < qat all l <;> simp [leastIdx, h]
  | y :: r, i, l, x => by
    simp only [List.cons_append, leastIdx]
    rw [leastIdx_snoc all r (i + 1) _ x]
    simp only [List.length_cons]
    rw [show i + 1 + r.length = i + (r.length + 1) by omega]
    by_cases h : x < qat all (leastIdx all (i + 1) (if y < qat all l then i else l) r)
    · exact (if_pos h).trans (if_pos h).symm
    · exact (if_neg h).trans (if_neg h).symm
theorem leastIdx_lt (all : List Rat) : ∀ (r : List Rat) (i l N : Nat), l < N → i + r.length ≤ N → leastIdx all i l r < N
  | [], i, l, N, h, _ => h
  | y :: r, i, l, N, h, h2 => by
    simp only [List.length_cons] at h2
    simp only [leastIdx]
    refine leastIdx_lt all r (i + 1) _ N ?_ (by omega)
    split <;> omega
end Go.Proofs.YtaajkcngcalgoaaGreat
