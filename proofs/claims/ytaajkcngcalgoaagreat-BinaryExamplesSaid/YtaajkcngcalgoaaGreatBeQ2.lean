/- The law BinaryExamples: for every input the call returns true and leaves its arguments as they were. No condition. This text: a part of what that proof needs. -/
import Derived.Test.YtaajkcngcalgoaaGreatBeQ1
import Derived.KernelRfl
set_option maxRecDepth 100000
set_option linter.unusedVariables false
namespace Go.Proofs.YtaajkcngcalgoaaGreat
open Go Go.Vc
def V89 (a0 : Value) (w : World) (R : Value → World → Prop) : Prop :=
  BoxP CC 30 a0 w fun x1 w_1 =>
  AllocP CC 127 w_1 fun x2 w_2 =>
  ∃ x3, fieldAddrV (tyOf tyTab 30) 1 x1 = some x3 ∧
  LoadP CC 28 x3 w_2 fun x4 w_3 =>
  CallP CC 103 [x4] w_3 fun x5 w_4 =>
  ∃ x7, binV (.int .i64) .eql x5 (.int .i64 0) = some x7 ∧
  CondP x7 (
    ∃ (T : World → World → Prop) (L : List Value → World → Prop), (∀ a b, Grow a b → T a b) ∧ (∀ a b c, T a b → T b c → T a c) ∧ (∀ w', Grow w_4 w' → L [] w') ∧
    ∃ A9 A10 As4 : Value → World → Prop,
    (∀ z, T w_4 z → (∃ v, fieldAddrV (tyOf tyTab 30) 0 x1 = some v)) ∧
    (∀ z, T w_4 z → (LoadP CC 28 ((fieldAddrV (tyOf tyTab 30) 0 x1).getD undef) z fun x y => Grow z y ∧ ∀ w'', T y w'' → A9 x w'')) ∧
    (∀ v9 : Value, ∀ z, T w_4 z → (CallP CC 96 [(.int .i64 1)] z fun x y => Grow z y ∧ ∀ w'', T y w'' → A10 x w'')) ∧
    (∀ v9 v10 : Value, ∀ z, T w_4 z → A9 v9 z → A10 v10 z → (∃ v, buildV (tyOf tyTab 127) [(0, v9), (1, v10)] = some v)) ∧
    (∀ v9 v10 : Value, ∀ z, T w_4 z → L [] z → A9 v9 z → A10 v10 z → StoreP CC 127 x2 ((buildV (tyOf tyTab 127) [(0, v9), (1, v10)]).getD undef) z fun y => T z y ∧ (∀ w'', T y w'' → As4 undef w'') ∧ ∀ w'', Grow y w'' → L [x2] w'') ∧
    ∀ v9 v10 vs4 : Value, ∀ (h : Nat → Value) (w_5 : World), T w_4 w_5 → A9 v9 w_5 → A10 v10 w_5 → As4 vs4 w_5 → L [x2] w_5 → 
    ∃ ad r, x2 = .pointer (some ad) ∧ (loadVar 127 ad).run CC.P w_5 = .ok r w_5 ∧
    R r w_5) (
    ∃ x13, binV (.int .i64) .eql x5 (.int .i64 (-1)) = some x13 ∧
    CondP x13 (
      ∃ (T_1 : World → World → Prop) (L_1 : List Value → World → Prop), (∀ a b, Grow a b → T_1 a b) ∧ (∀ a b c, T_1 a b → T_1 b c → T_1 a c) ∧ (∀ w', Grow w_4 w' → L_1 [] w') ∧
      ∃ A15 A16 A18 A19 As7 : Value → World → Prop,
      (∀ z, T_1 w_4 z → (∃ v, fieldAddrV (tyOf tyTab 30) 0 x1 = some v)) ∧
      (∀ z, T_1 w_4 z → (LoadP CC 28 ((fieldAddrV (tyOf tyTab 30) 0 x1).getD undef) z fun x y => Grow z y ∧ ∀ w'', T_1 y w'' → A15 x w'')) ∧
      (∀ v15 : Value, ∀ z, T_1 w_4 z → A15 v15 z → (CallP CC 153 [v15] z fun x y => Grow z y ∧ ∀ w'', T_1 y w'' → A16 x w'')) ∧
      (∀ v15 v16 : Value, ∀ z, T_1 w_4 z → (∃ v, fieldAddrV (tyOf tyTab 30) 1 x1 = some v)) ∧
      (∀ v15 v16 : Value, ∀ z, T_1 w_4 z → (LoadP CC 28 ((fieldAddrV (tyOf tyTab 30) 1 x1).getD undef) z fun x y => Grow z y ∧ ∀ w'', T_1 y w'' → A18 x w'')) ∧
      (∀ v15 v16 v18 : Value, ∀ z, T_1 w_4 z → A15 v15 z → A16 v16 z → A18 v18 z → (CallP CC 153 [v18] z fun x y => Grow z y ∧ ∀ w'', T_1 y w'' → A19 x w'')) ∧
      (∀ v15 v16 v18 v19 : Value, ∀ z, T_1 w_4 z → A15 v15 z → A16 v16 z → A18 v18 z → A19 v19 z → (∃ v, buildV (tyOf tyTab 127) [(0, v16), (1, v19)] = some v)) ∧
      (∀ v15 v16 v18 v19 : Value, ∀ z, T_1 w_4 z → L_1 [] z → A15 v15 z → A16 v16 z → A18 v18 z → A19 v19 z → StoreP CC 127 x2 ((buildV (tyOf tyTab 127) [(0, v16), (1, v19)]).getD undef) z fun y => T_1 z y ∧ (∀ w'', T_1 y w'' → As7 undef w'') ∧ ∀ w'', Grow y w'' → L_1 [x2] w'') ∧
      ∀ v15 v16 v18 v19 vs7 : Value, ∀ (h_1 : Nat → Value) (w_6 : World), T_1 w_4 w_6 → A15 v15 w_6 → A16 v16 w_6 → A18 v18 w_6 → A19 v19 w_6 → As7 vs7 w_6 → L_1 [x2] w_6 → 
      ∃ ad_1 r_1, x2 = .pointer (some ad_1) ∧ (loadVar 127 ad_1).run CC.P w_6 = .ok r_1 w_6 ∧
      R r_1 w_6) (
      ∃ x21, fieldAddrV (tyOf tyTab 30) 0 x1 = some x21 ∧
      LoadP CC 28 x21 w_4 fun x22 w_7 =>
      ∃ x23, fieldAddrV (tyOf tyTab 30) 1 x1 = some x23 ∧
      LoadP CC 28 x23 w_7 fun x24 w_8 =>
      ∃ x25, buildV (tyOf tyTab 127) [(0, x22), (1, x24)] = some x25 ∧
      StoreP CC 127 x2 x25 w_8 fun w_9 =>
      ∃ ad_2 r_2, x2 = .pointer (some ad_2) ∧ (loadVar 127 ad_2).run CC.P w_9 = .ok r_2 w_9 ∧
      R r_2 w_9))
theorem V89_eq (a0 : Value) (w : World) (R : Value → World → Prop) : V89 a0 w R = FnP CC { keep := fun _ => [], lin := fun _ => [] } Tryz.f89 [a0] w R := by kernel_rfl
theorem call89 {a0 : Value} {w : World} {R : Value → World → Prop} (h : V89 a0 w R) : CallP CC 89 [a0] w R :=
  call_of_vc CC.ok _ Tryz.func89 (V89_eq a0 w R ▸ h)
def V152 (a0 : Value) (w : World) (R : Value → World → Prop) : Prop :=
  BoxP CC 127 a0 w fun x1 w_1 =>
  AllocP CC 30 w_1 fun x2 w_2 =>
  ∃ x10, fieldAddrV (tyOf tyTab 127) 0 x1 = some x10 ∧
  LoadP CC 28 x10 w_2 fun x11 w_3 =>
  ∃ x12, fieldAddrV (tyOf tyTab 127) 1 x1 = some x12 ∧
  LoadP CC 28 x12 w_3 fun x13 w_4 =>
  CallP CC 197 [x11, x13] w_4 fun x14 w_5 =>
  AllocP CC 28 w_5 fun x3 w_6 =>
  StoreP CC 28 x3 x14 w_6 fun w_7 =>
  ∃ x16, fieldAddrV (tyOf tyTab 127) 0 x1 = some x16 ∧
  LoadP CC 28 x16 w_7 fun x17 w_8 =>
  LoadP CC 28 x3 w_8 fun x18 w_9 =>
  CallP CC 198 [x17, x18] w_9 fun x19 w_10 =>
  ∃ x20, extrV x19 0 = some x20 ∧
  ∃ x21, extrV x19 1 = some x21 ∧
  ∃ x22, extrV x19 2 = some x22 ∧
  AllocP CC 28 w_10 fun x4 w_11 =>
  AllocP CC 28 w_11 fun x5 w_12 =>
  StoreP CC 28 x4 x20 w_12 fun w_13 =>
  StoreP CC 28 x5 x21 w_13 fun w_14 =>
  ∃ x24, fieldAddrV (tyOf tyTab 127) 1 x1 = some x24 ∧
  LoadP CC 28 x24 w_14 fun x25 w_15 =>
  LoadP CC 28 x3 w_15 fun x26 w_16 =>
  CallP CC 198 [x25, x26] w_16 fun x27 w_17 =>
  ∃ x28, extrV x27 0 = some x28 ∧
  ∃ x29, extrV x27 1 = some x29 ∧
  ∃ x30, extrV x27 2 = some x30 ∧
  AllocP CC 28 w_17 fun x7 w_18 =>
  AllocP CC 28 w_18 fun x8 w_19 =>
  StoreP CC 28 x7 x28 w_19 fun w_20 =>
  StoreP CC 28 x8 x29 w_20 fun w_21 =>
  ∃ A31 A32 A33 : Value → World → Prop,
  (∀ z, Grow w_21 z → (LoadP CC 28 x7 z fun x y => Grow z y ∧ ∀ w'', Grow y w'' → A31 x w'')) ∧
  (∀ v31 : Value, ∀ z, Grow w_21 z → (CallP CC 96 [(.int .i64 1)] z fun x y => Grow z y ∧ ∀ w'', Grow y w'' → A32 x w'')) ∧
  (∀ v31 v32 : Value, ∀ z, Grow w_21 z → A31 v31 z → A32 v32 z → (CallP CC 90 [v31, v32] z fun x y => Grow z y ∧ ∀ w'', Grow y w'' → A33 x w'')) ∧
  (∀ v31 v32 v33 : Value, ∀ z, Grow w_21 z → A31 v31 z → A32 v32 z → A33 v33 z → (∃ v, binV (.int .i64) .eql v33 (.int .i64 0) = some v)) ∧
  ∀ v31 v32 v33 : Value, ∀ (h : Nat → Value) (w_22 : World), Grow w_21 w_22 → A31 v31 w_22 → A32 v32 w_22 → A33 v33 w_22 → 
  CondP ((binV (.int .i64) .eql v33 (.int .i64 0)).getD undef) (
    LoadP CC 28 x4 w_22 fun x35 w_23 =>
    ∃ x36, buildV (tyOf tyTab 30) [(0, x35)] = some x36 ∧
    StoreP CC 30 x2 x36 w_23 fun w_24 =>
    ∃ ad r, x2 = .pointer (some ad) ∧ (loadVar 30 ad).run CC.P w_24 = .ok r w_24 ∧
    R r w_24) (
    LoadP CC 28 x4 w_22 fun x37 w_25 =>
    LoadP CC 28 x7 w_25 fun x38 w_26 =>
    ∃ x39, buildV (tyOf tyTab 30) [(0, x37), (1, x38)] = some x39 ∧
    StoreP CC 30 x2 x39 w_26 fun w_27 =>
    ∃ ad_1 r_1, x2 = .pointer (some ad_1) ∧ (loadVar 30 ad_1).run CC.P w_27 = .ok r_1 w_27 ∧
    R r_1 w_27)
theorem V152_eq (a0 : Value) (w : World) (R : Value → World → Prop) : V152 a0 w R = FnP CC { keep := fun _ => [], lin := fun _ => [] } Tryz.f152 [a0] w R := by kernel_rfl
theorem call152 {a0 : Value} {w : World} {R : Value → World → Prop} (h : V152 a0 w R) : CallP CC 152 [a0] w R :=
  call_of_vc CC.ok _ Tryz.func152 (V152_eq a0 w R ▸ h)
def V87 (a0 : Value) (w : World) (R : Value → World → Prop) : Prop :=
  BoxP CC 30 a0 w fun x1 w_1 =>
  AllocP CC 30 w_1 fun x2 w_2 =>
  LoadP CC 30 x1 w_2 fun x3 w_3 =>
  CallP CC 89 [x3] w_3 fun x4 w_4 =>
  CallP CC 152 [x4] w_4 fun x5 w_5 =>
  StoreP CC 30 x2 x5 w_5 fun w_6 =>
  ∃ ad r, x2 = .pointer (some ad) ∧ (loadVar 30 ad).run CC.P w_6 = .ok r w_6 ∧
  R r w_6
theorem V87_eq (a0 : Value) (w : World) (R : Value → World → Prop) : V87 a0 w R = FnP CC { keep := fun _ => [], lin := fun _ => [] } Tryz.f87 [a0] w R := by kernel_rfl
theorem call87 {a0 : Value} {w : World} {R : Value → World → Prop} (h : V87 a0 w R) : CallP CC 87 [a0] w R :=
  call_of_vc CC.ok _ Tryz.func87 (V87_eq a0 w R ▸ h)
def V102 (a0 a1 a2 : Value) (w : World) (R : Value → World → Prop) : Prop :=
  BoxP CC 30 a1 w fun x4 w_1 =>
  BoxP CC 30 a2 w_1 fun x5 w_2 =>
  AllocP CC 30 w_2 fun x6 w_3 =>
  MakeMapP CC 219 none w_3 fun x8 w_4 =>
  ∃ x9, buildV (tyOf tyTab 218) [(0, (Value.func (.func 169) #[] #[]))] = some x9 ∧
  InsertP CC 219 x8 (.string ⟨#[97, 100, 100]⟩) x9 w_4 fun w_5 =>
  ∃ x10, buildV (tyOf tyTab 218) [(0, (Value.func (.func 171) #[] #[]))] = some x10 ∧
  InsertP CC 219 x8 (.string ⟨#[115, 117, 98]⟩) x10 w_5 fun w_6 =>
  ∃ x11, buildV (tyOf tyTab 218) [(0, (Value.func (.func 172) #[] #[]))] = some x11 ∧
  InsertP CC 219 x8 (.string ⟨#[109, 117, 108]⟩) x11 w_6 fun w_7 =>
  ∃ x12, buildV (tyOf tyTab 218) [(0, (Value.func (.func 173) #[] #[]))] = some x12 ∧
  InsertP CC 219 x8 (.string ⟨#[100, 105, 118]⟩) x12 w_7 fun w_8 =>
  ∃ (T : World → World → Prop) (L : List Value → World → Prop), (∀ a b, Grow a b → T a b) ∧ (∀ a b c, T a b → T b c → T a c) ∧ (∀ w', Grow w_8 w' → L [] w') ∧
  ∃ A16 A18 A19 A20 A21 A22 A23 As10 : Value → World → Prop,
  (∀ z, T w_8 z → (LookupP CC 219 x8 a0 false z fun x y => Grow z y ∧ ∀ w'', T y w'' → A16 x w'')) ∧
  (∀ v16 : Value, ∀ z, T w_8 z → A16 v16 z → (∃ v, fieldV (tyOf tyTab 218) 0 v16 = some v)) ∧
  (∀ v16 : Value, ∀ z, T w_8 z → (LoadP CC 30 x4 z fun x y => Grow z y ∧ ∀ w'', T y w'' → A18 x w'')) ∧
  (∀ v16 v18 : Value, ∀ z, T w_8 z → A18 v18 z → (CallP CC 89 [v18] z fun x y => Grow z y ∧ ∀ w'', T y w'' → A19 x w'')) ∧
  (∀ v16 v18 v19 : Value, ∀ z, T w_8 z → (LoadP CC 30 x5 z fun x y => Grow z y ∧ ∀ w'', T y w'' → A20 x w'')) ∧
  (∀ v16 v18 v19 v20 : Value, ∀ z, T w_8 z → A18 v18 z → A19 v19 z → A20 v20 z → (CallP CC 89 [v20] z fun x y => Grow z y ∧ ∀ w'', T y w'' → A21 x w'')) ∧
  (∀ v16 v18 v19 v20 v21 : Value, ∀ z, T w_8 z → A16 v16 z → A18 v18 z → A19 v19 z → A20 v20 z → A21 v21 z → (callV CC ((fieldV (tyOf tyTab 218) 0 v16).getD undef) [v19, v21] z fun x y => Grow z y ∧ ∀ w'', T y w'' → A22 x w'')) ∧
  (∀ v16 v18 v19 v20 v21 v22 : Value, ∀ z, T w_8 z → A16 v16 z → A18 v18 z → A19 v19 z → A20 v20 z → A21 v21 z → A22 v22 z → (CallP CC 152 [v22] z fun x y => Grow z y ∧ ∀ w'', T y w'' → A23 x w'')) ∧
  (∀ v16 v18 v19 v20 v21 v22 v23 : Value, ∀ z, T w_8 z → L [] z → A16 v16 z → A18 v18 z → A19 v19 z → A20 v20 z → A21 v21 z → A22 v22 z → A23 v23 z → StoreP CC 30 x6 v23 z fun y => T z y ∧ (∀ w'', T y w'' → As10 undef w'') ∧ ∀ w'', Grow y w'' → L [x6] w'') ∧
  ∀ v16 v18 v19 v20 v21 v22 v23 vs10 : Value, ∀ (h : Nat → Value) (w_9 : World), T w_8 w_9 → A16 v16 w_9 → A18 v18 w_9 → A19 v19 w_9 → A20 v20 w_9 → A21 v21 w_9 → A22 v22 w_9 → A23 v23 w_9 → As10 vs10 w_9 → L [x6] w_9 → 
  ∃ ad r, x6 = .pointer (some ad) ∧ (loadVar 30 ad).run CC.P w_9 = .ok r w_9 ∧
  R r w_9
theorem V102_eq (a0 a1 a2 : Value) (w : World) (R : Value → World → Prop) : V102 a0 a1 a2 w R = FnP CC { keep := fun _ => [], lin := fun _ => [] } Tryz.f102 [a0, a1, a2] w R := by kernel_rfl
theorem call102 {a0 a1 a2 : Value} {w : World} {R : Value → World → Prop} (h : V102 a0 a1 a2 w R) : CallP CC 102 [a0, a1, a2] w R :=
  call_of_vc CC.ok _ Tryz.func102 (V102_eq a0 a1 a2 w R ▸ h)
def V169 (a0 a1 : Value) (w : World) (R : Value → World → Prop) : Prop :=
  BoxP CC 127 a0 w fun x2 w_1 =>
  BoxP CC 127 a1 w_1 fun x3 w_2 =>
  AllocP CC 127 w_2 fun x4 w_3 =>
  ∃ (T : World → World → Prop) (L : List Value → World → Prop), (∀ a b, Grow a b → T a b) ∧ (∀ a b c, T a b → T b c → T a c) ∧ (∀ w', Grow w_3 w' → L [] w') ∧
  ∃ A6 A8 A9 A11 A13 A14 A15 A17 A19 A20 As17 : Value → World → Prop,
  (∀ z, T w_3 z → (∃ v, fieldAddrV (tyOf tyTab 127) 0 x2 = some v)) ∧
  (∀ z, T w_3 z → (LoadP CC 28 ((fieldAddrV (tyOf tyTab 127) 0 x2).getD undef) z fun x y => Grow z y ∧ ∀ w'', T y w'' → A6 x w'')) ∧
  (∀ v6 : Value, ∀ z, T w_3 z → (∃ v, fieldAddrV (tyOf tyTab 127) 1 x3 = some v)) ∧
  (∀ v6 : Value, ∀ z, T w_3 z → (LoadP CC 28 ((fieldAddrV (tyOf tyTab 127) 1 x3).getD undef) z fun x y => Grow z y ∧ ∀ w'', T y w'' → A8 x w'')) ∧
  (∀ v6 v8 : Value, ∀ z, T w_3 z → A6 v6 z → A8 v8 z → (CallP CC 91 [v6, v8] z fun x y => Grow z y ∧ ∀ w'', T y w'' → A9 x w'')) ∧
  (∀ v6 v8 v9 : Value, ∀ z, T w_3 z → (∃ v, fieldAddrV (tyOf tyTab 127) 0 x3 = some v)) ∧
  (∀ v6 v8 v9 : Value, ∀ z, T w_3 z → (LoadP CC 28 ((fieldAddrV (tyOf tyTab 127) 0 x3).getD undef) z fun x y => Grow z y ∧ ∀ w'', T y w'' → A11 x w'')) ∧
  (∀ v6 v8 v9 v11 : Value, ∀ z, T w_3 z → (∃ v, fieldAddrV (tyOf tyTab 127) 1 x2 = some v)) ∧
  (∀ v6 v8 v9 v11 : Value, ∀ z, T w_3 z → (LoadP CC 28 ((fieldAddrV (tyOf tyTab 127) 1 x2).getD undef) z fun x y => Grow z y ∧ ∀ w'', T y w'' → A13 x w'')) ∧
  (∀ v6 v8 v9 v11 v13 : Value, ∀ z, T w_3 z → A6 v6 z → A8 v8 z → A9 v9 z → A11 v11 z → A13 v13 z → (CallP CC 91 [v11, v13] z fun x y => Grow z y ∧ ∀ w'', T y w'' → A14 x w'')) ∧
  (∀ v6 v8 v9 v11 v13 v14 : Value, ∀ z, T w_3 z → A6 v6 z → A8 v8 z → A9 v9 z → A11 v11 z → A13 v13 z → A14 v14 z → (CallP CC 170 [v9, v14] z fun x y => Grow z y ∧ ∀ w'', T y w'' → A15 x w'')) ∧
  (∀ v6 v8 v9 v11 v13 v14 v15 : Value, ∀ z, T w_3 z → (∃ v, fieldAddrV (tyOf tyTab 127) 1 x2 = some v)) ∧
  (∀ v6 v8 v9 v11 v13 v14 v15 : Value, ∀ z, T w_3 z → (LoadP CC 28 ((fieldAddrV (tyOf tyTab 127) 1 x2).getD undef) z fun x y => Grow z y ∧ ∀ w'', T y w'' → A17 x w'')) ∧
  (∀ v6 v8 v9 v11 v13 v14 v15 v17 : Value, ∀ z, T w_3 z → (∃ v, fieldAddrV (tyOf tyTab 127) 1 x3 = some v)) ∧
  (∀ v6 v8 v9 v11 v13 v14 v15 v17 : Value, ∀ z, T w_3 z → (LoadP CC 28 ((fieldAddrV (tyOf tyTab 127) 1 x3).getD undef) z fun x y => Grow z y ∧ ∀ w'', T y w'' → A19 x w'')) ∧
  (∀ v6 v8 v9 v11 v13 v14 v15 v17 v19 : Value, ∀ z, T w_3 z → A6 v6 z → A8 v8 z → A9 v9 z → A11 v11 z → A13 v13 z → A14 v14 z → A15 v15 z → A17 v17 z → A19 v19 z → (CallP CC 91 [v17, v19] z fun x y => Grow z y ∧ ∀ w'', T y w'' → A20 x w'')) ∧
  (∀ v6 v8 v9 v11 v13 v14 v15 v17 v19 v20 : Value, ∀ z, T w_3 z → A6 v6 z → A8 v8 z → A9 v9 z → A11 v11 z → A13 v13 z → A14 v14 z → A15 v15 z → A17 v17 z → A19 v19 z → A20 v20 z → (∃ v, buildV (tyOf tyTab 127) [(0, v15), (1, v20)] = some v)) ∧
  (∀ v6 v8 v9 v11 v13 v14 v15 v17 v19 v20 : Value, ∀ z, T w_3 z → L [] z → A6 v6 z → A8 v8 z → A9 v9 z → A11 v11 z → A13 v13 z → A14 v14 z → A15 v15 z → A17 v17 z → A19 v19 z → A20 v20 z → StoreP CC 127 x4 ((buildV (tyOf tyTab 127) [(0, v15), (1, v20)]).getD undef) z fun y => T z y ∧ (∀ w'', T y w'' → As17 undef w'') ∧ ∀ w'', Grow y w'' → L [x4] w'') ∧
  ∀ v6 v8 v9 v11 v13 v14 v15 v17 v19 v20 vs17 : Value, ∀ (h : Nat → Value) (w_4 : World), T w_3 w_4 → A6 v6 w_4 → A8 v8 w_4 → A9 v9 w_4 → A11 v11 w_4 → A13 v13 w_4 → A14 v14 w_4 → A15 v15 w_4 → A17 v17 w_4 → A19 v19 w_4 → A20 v20 w_4 → As17 vs17 w_4 → L [x4] w_4 → 
  ∃ ad r, x4 = .pointer (some ad) ∧ (loadVar 127 ad).run CC.P w_4 = .ok r w_4 ∧
  R r w_4
theorem V169_eq (a0 a1 : Value) (w : World) (R : Value → World → Prop) : V169 a0 a1 w R = FnP CC { keep := fun _ => [], lin := fun _ => [] } Tryz.f169 [a0, a1] w R := by kernel_rfl
theorem call169 {a0 a1 : Value} {w : World} {R : Value → World → Prop} (h : V169 a0 a1 w R) : CallP CC 169 [a0, a1] w R :=
  call_of_vc CC.ok _ Tryz.func169 (V169_eq a0 a1 w R ▸ h)
def V171 (a0 a1 : Value) (w : World) (R : Value → World → Prop) : Prop :=
  BoxP CC 127 a0 w fun x2 w_1 =>
  BoxP CC 127 a1 w_1 fun x3 w_2 =>
  AllocP CC 127 w_2 fun x4 w_3 =>
  ∃ (T : World → World → Prop) (L : List Value → World → Prop), (∀ a b, Grow a b → T a b) ∧ (∀ a b c, T a b → T b c → T a c) ∧ (∀ w', Grow w_3 w' → L [] w') ∧
  ∃ A6 A8 A9 A11 A13 A14 A15 A17 A19 A20 As17 : Value → World → Prop,
  (∀ z, T w_3 z → (∃ v, fieldAddrV (tyOf tyTab 127) 0 x2 = some v)) ∧
  (∀ z, T w_3 z → (LoadP CC 28 ((fieldAddrV (tyOf tyTab 127) 0 x2).getD undef) z fun x y => Grow z y ∧ ∀ w'', T y w'' → A6 x w'')) ∧
  (∀ v6 : Value, ∀ z, T w_3 z → (∃ v, fieldAddrV (tyOf tyTab 127) 1 x3 = some v)) ∧
  (∀ v6 : Value, ∀ z, T w_3 z → (LoadP CC 28 ((fieldAddrV (tyOf tyTab 127) 1 x3).getD undef) z fun x y => Grow z y ∧ ∀ w'', T y w'' → A8 x w'')) ∧
  (∀ v6 v8 : Value, ∀ z, T w_3 z → A6 v6 z → A8 v8 z → (CallP CC 91 [v6, v8] z fun x y => Grow z y ∧ ∀ w'', T y w'' → A9 x w'')) ∧
  (∀ v6 v8 v9 : Value, ∀ z, T w_3 z → (∃ v, fieldAddrV (tyOf tyTab 127) 0 x3 = some v)) ∧
  (∀ v6 v8 v9 : Value, ∀ z, T w_3 z → (LoadP CC 28 ((fieldAddrV (tyOf tyTab 127) 0 x3).getD undef) z fun x y => Grow z y ∧ ∀ w'', T y w'' → A11 x w'')) ∧
  (∀ v6 v8 v9 v11 : Value, ∀ z, T w_3 z → (∃ v, fieldAddrV (tyOf tyTab 127) 1 x2 = some v)) ∧
  (∀ v6 v8 v9 v11 : Value, ∀ z, T w_3 z → (LoadP CC 28 ((fieldAddrV (tyOf tyTab 127) 1 x2).getD undef) z fun x y => Grow z y ∧ ∀ w'', T y w'' → A13 x w'')) ∧
  (∀ v6 v8 v9 v11 v13 : Value, ∀ z, T w_3 z → A6 v6 z → A8 v8 z → A9 v9 z → A11 v11 z → A13 v13 z → (CallP CC 91 [v11, v13] z fun x y => Grow z y ∧ ∀ w'', T y w'' → A14 x w'')) ∧
  (∀ v6 v8 v9 v11 v13 v14 : Value, ∀ z, T w_3 z → A6 v6 z → A8 v8 z → A9 v9 z → A11 v11 z → A13 v13 z → A14 v14 z → (CallP CC 154 [v9, v14] z fun x y => Grow z y ∧ ∀ w'', T y w'' → A15 x w'')) ∧
  (∀ v6 v8 v9 v11 v13 v14 v15 : Value, ∀ z, T w_3 z → (∃ v, fieldAddrV (tyOf tyTab 127) 1 x2 = some v)) ∧
  (∀ v6 v8 v9 v11 v13 v14 v15 : Value, ∀ z, T w_3 z → (LoadP CC 28 ((fieldAddrV (tyOf tyTab 127) 1 x2).getD undef) z fun x y => Grow z y ∧ ∀ w'', T y w'' → A17 x w'')) ∧
  (∀ v6 v8 v9 v11 v13 v14 v15 v17 : Value, ∀ z, T w_3 z → (∃ v, fieldAddrV (tyOf tyTab 127) 1 x3 = some v)) ∧
  (∀ v6 v8 v9 v11 v13 v14 v15 v17 : Value, ∀ z, T w_3 z → (LoadP CC 28 ((fieldAddrV (tyOf tyTab 127) 1 x3).getD undef) z fun x y => Grow z y ∧ ∀ w'', T y w'' → A19 x w'')) ∧
  (∀ v6 v8 v9 v11 v13 v14 v15 v17 v19 : Value, ∀ z, T w_3 z → A6 v6 z → A8 v8 z → A9 v9 z → A11 v11 z → A13 v13 z → A14 v14 z → A15 v15 z → A17 v17 z → A19 v19 z → (CallP CC 91 [v17, v19] z fun x y => Grow z y ∧ ∀ w'', T y w'' → A20 x w'')) ∧
  (∀ v6 v8 v9 v11 v13 v14 v15 v17 v19 v20 : Value, ∀ z, T w_3 z → A6 v6 z → A8 v8 z → A9 v9 z → A11 v11 z → A13 v13 z → A14 v14 z → A15 v15 z → A17 v17 z → A19 v19 z → A20 v20 z → (∃ v, buildV (tyOf tyTab 127) [(0, v15), (1, v20)] = some v)) ∧
  (∀ v6 v8 v9 v11 v13 v14 v15 v17 v19 v20 : Value, ∀ z, T w_3 z → L [] z → A6 v6 z → A8 v8 z → A9 v9 z → A11 v11 z → A13 v13 z → A14 v14 z → A15 v15 z → A17 v17 z → A19 v19 z → A20 v20 z → StoreP CC 127 x4 ((buildV (tyOf tyTab 127) [(0, v15), (1, v20)]).getD undef) z fun y => T z y ∧ (∀ w'', T y w'' → As17 undef w'') ∧ ∀ w'', Grow y w'' → L [x4] w'') ∧
  ∀ v6 v8 v9 v11 v13 v14 v15 v17 v19 v20 vs17 : Value, ∀ (h : Nat → Value) (w_4 : World), T w_3 w_4 → A6 v6 w_4 → A8 v8 w_4 → A9 v9 w_4 → A11 v11 w_4 → A13 v13 w_4 → A14 v14 w_4 → A15 v15 w_4 → A17 v17 w_4 → A19 v19 w_4 → A20 v20 w_4 → As17 vs17 w_4 → L [x4] w_4 → 
  ∃ ad r, x4 = .pointer (some ad) ∧ (loadVar 127 ad).run CC.P w_4 = .ok r w_4 ∧
  R r w_4
theorem V171_eq (a0 a1 : Value) (w : World) (R : Value → World → Prop) : V171 a0 a1 w R = FnP CC { keep := fun _ => [], lin := fun _ => [] } Tryz.f171 [a0, a1] w R := by kernel_rfl
theorem call171 {a0 a1 : Value} {w : World} {R : Value → World → Prop} (h : V171 a0 a1 w R) : CallP CC 171 [a0, a1] w R :=
  call_of_vc CC.ok _ Tryz.func171 (V171_eq a0 a1 w R ▸ h)
def V172 (a0 a1 : Value) (w : World) (R : Value → World → Prop) : Prop :=
  BoxP CC 127 a0 w fun x2 w_1 =>
  BoxP CC 127 a1 w_1 fun x3 w_2 =>
  AllocP CC 127 w_2 fun x4 w_3 =>
  ∃ (T : World → World → Prop) (L : List Value → World → Prop), (∀ a b, Grow a b → T a b) ∧ (∀ a b c, T a b → T b c → T a c) ∧ (∀ w', Grow w_3 w' → L [] w') ∧
  ∃ A6 A8 A9 A11 A13 A14 As11 : Value → World → Prop,
  (∀ z, T w_3 z → (∃ v, fieldAddrV (tyOf tyTab 127) 0 x2 = some v)) ∧
  (∀ z, T w_3 z → (LoadP CC 28 ((fieldAddrV (tyOf tyTab 127) 0 x2).getD undef) z fun x y => Grow z y ∧ ∀ w'', T y w'' → A6 x w'')) ∧
  (∀ v6 : Value, ∀ z, T w_3 z → (∃ v, fieldAddrV (tyOf tyTab 127) 0 x3 = some v)) ∧
  (∀ v6 : Value, ∀ z, T w_3 z → (LoadP CC 28 ((fieldAddrV (tyOf tyTab 127) 0 x3).getD undef) z fun x y => Grow z y ∧ ∀ w'', T y w'' → A8 x w'')) ∧
  (∀ v6 v8 : Value, ∀ z, T w_3 z → A6 v6 z → A8 v8 z → (CallP CC 91 [v6, v8] z fun x y => Grow z y ∧ ∀ w'', T y w'' → A9 x w'')) ∧
  (∀ v6 v8 v9 : Value, ∀ z, T w_3 z → (∃ v, fieldAddrV (tyOf tyTab 127) 1 x2 = some v)) ∧
  (∀ v6 v8 v9 : Value, ∀ z, T w_3 z → (LoadP CC 28 ((fieldAddrV (tyOf tyTab 127) 1 x2).getD undef) z fun x y => Grow z y ∧ ∀ w'', T y w'' → A11 x w'')) ∧
  (∀ v6 v8 v9 v11 : Value, ∀ z, T w_3 z → (∃ v, fieldAddrV (tyOf tyTab 127) 1 x3 = some v)) ∧
  (∀ v6 v8 v9 v11 : Value, ∀ z, T w_3 z → (LoadP CC 28 ((fieldAddrV (tyOf tyTab 127) 1 x3).getD undef) z fun x y => Grow z y ∧ ∀ w'', T y w'' → A13 x w'')) ∧
  (∀ v6 v8 v9 v11 v13 : Value, ∀ z, T w_3 z → A6 v6 z → A8 v8 z → A9 v9 z → A11 v11 z → A13 v13 z → (CallP CC 91 [v11, v13] z fun x y => Grow z y ∧ ∀ w'', T y w'' → A14 x w'')) ∧
  (∀ v6 v8 v9 v11 v13 v14 : Value, ∀ z, T w_3 z → A6 v6 z → A8 v8 z → A9 v9 z → A11 v11 z → A13 v13 z → A14 v14 z → (∃ v, buildV (tyOf tyTab 127) [(0, v9), (1, v14)] = some v)) ∧
  (∀ v6 v8 v9 v11 v13 v14 : Value, ∀ z, T w_3 z → L [] z → A6 v6 z → A8 v8 z → A9 v9 z → A11 v11 z → A13 v13 z → A14 v14 z → StoreP CC 127 x4 ((buildV (tyOf tyTab 127) [(0, v9), (1, v14)]).getD undef) z fun y => T z y ∧ (∀ w'', T y w'' → As11 undef w'') ∧ ∀ w'', Grow y w'' → L [x4] w'') ∧
  ∀ v6 v8 v9 v11 v13 v14 vs11 : Value, ∀ (h : Nat → Value) (w_4 : World), T w_3 w_4 → A6 v6 w_4 → A8 v8 w_4 → A9 v9 w_4 → A11 v11 w_4 → A13 v13 w_4 → A14 v14 w_4 → As11 vs11 w_4 → L [x4] w_4 → 
  ∃ ad r, x4 = .pointer (some ad) ∧ (loadVar 127 ad).run CC.P w_4 = .ok r w_4 ∧
  R r w_4
theorem V172_eq (a0 a1 : Value) (w : World) (R : Value → World → Prop) : V172 a0 a1 w R = FnP CC { keep := fun _ => [], lin := fun _ => [] } Tryz.f172 [a0, a1] w R := by kernel_rfl
theorem call172 {a0 a1 : Value} {w : World} {R : Value → World → Prop} (h : V172 a0 a1 w R) : CallP CC 172 [a0, a1] w R :=
  call_of_vc CC.ok _ Tryz.func172 (V172_eq a0 a1 w R ▸ h)
def V173 (a0 a1 : Value) (w : World) (R : Value → World → Prop) : Prop :=
  BoxP CC 127 a0 w fun x2 w_1 =>
  BoxP CC 127 a1 w_1 fun x3 w_2 =>
  AllocP CC 127 w_2 fun x4 w_3 =>
  ∃ (T : World → World → Prop) (L : List Value → World → Prop), (∀ a b, Grow a b → T a b) ∧ (∀ a b c, T a b → T b c → T a c) ∧ (∀ w', Grow w_3 w' → L [] w') ∧
  ∃ A6 A8 A9 A11 A13 A14 A16 As12 : Value → World → Prop,
  (∀ z, T w_3 z → (∃ v, fieldAddrV (tyOf tyTab 127) 0 x2 = some v)) ∧
  (∀ z, T w_3 z → (LoadP CC 28 ((fieldAddrV (tyOf tyTab 127) 0 x2).getD undef) z fun x y => Grow z y ∧ ∀ w'', T y w'' → A6 x w'')) ∧
  (∀ v6 : Value, ∀ z, T w_3 z → (∃ v, fieldAddrV (tyOf tyTab 127) 1 x3 = some v)) ∧
  (∀ v6 : Value, ∀ z, T w_3 z → (LoadP CC 28 ((fieldAddrV (tyOf tyTab 127) 1 x3).getD undef) z fun x y => Grow z y ∧ ∀ w'', T y w'' → A8 x w'')) ∧
  (∀ v6 v8 : Value, ∀ z, T w_3 z → A6 v6 z → A8 v8 z → (CallP CC 91 [v6, v8] z fun x y => Grow z y ∧ ∀ w'', T y w'' → A9 x w'')) ∧
  (∀ v6 v8 v9 : Value, ∀ z, T w_3 z → (∃ v, fieldAddrV (tyOf tyTab 127) 1 x2 = some v)) ∧
  (∀ v6 v8 v9 : Value, ∀ z, T w_3 z → (LoadP CC 28 ((fieldAddrV (tyOf tyTab 127) 1 x2).getD undef) z fun x y => Grow z y ∧ ∀ w'', T y w'' → A11 x w'')) ∧
  (∀ v6 v8 v9 v11 : Value, ∀ z, T w_3 z → (∃ v, fieldAddrV (tyOf tyTab 127) 0 x3 = some v)) ∧
  (∀ v6 v8 v9 v11 : Value, ∀ z, T w_3 z → (LoadP CC 28 ((fieldAddrV (tyOf tyTab 127) 0 x3).getD undef) z fun x y => Grow z y ∧ ∀ w'', T y w'' → A13 x w'')) ∧
  (∀ v6 v8 v9 v11 v13 : Value, ∀ z, T w_3 z → A6 v6 z → A8 v8 z → A9 v9 z → A11 v11 z → A13 v13 z → (CallP CC 91 [v11, v13] z fun x y => Grow z y ∧ ∀ w'', T y w'' → A14 x w'')) ∧
  (∀ v6 v8 v9 v11 v13 v14 : Value, ∀ z, T w_3 z → A6 v6 z → A8 v8 z → A9 v9 z → A11 v11 z → A13 v13 z → A14 v14 z → (∃ v, buildV (tyOf tyTab 30) [(0, v9), (1, v14)] = some v)) ∧
  (∀ v6 v8 v9 v11 v13 v14 : Value, ∀ z, T w_3 z → A6 v6 z → A8 v8 z → A9 v9 z → A11 v11 z → A13 v13 z → A14 v14 z → (CallP CC 89 [((buildV (tyOf tyTab 30) [(0, v9), (1, v14)]).getD undef)] z fun x y => Grow z y ∧ ∀ w'', T y w'' → A16 x w'')) ∧
  (∀ v6 v8 v9 v11 v13 v14 v16 : Value, ∀ z, T w_3 z → L [] z → A6 v6 z → A8 v8 z → A9 v9 z → A11 v11 z → A13 v13 z → A14 v14 z → A16 v16 z → StoreP CC 127 x4 v16 z fun y => T z y ∧ (∀ w'', T y w'' → As12 undef w'') ∧ ∀ w'', Grow y w'' → L [x4] w'') ∧
  ∀ v6 v8 v9 v11 v13 v14 v16 vs12 : Value, ∀ (h : Nat → Value) (w_4 : World), T w_3 w_4 → A6 v6 w_4 → A8 v8 w_4 → A9 v9 w_4 → A11 v11 w_4 → A13 v13 w_4 → A14 v14 w_4 → A16 v16 w_4 → As12 vs12 w_4 → L [x4] w_4 → 
  ∃ ad r, x4 = .pointer (some ad) ∧ (loadVar 127 ad).run CC.P w_4 = .ok r w_4 ∧
  R r w_4
theorem V173_eq (a0 a1 : Value) (w : World) (R : Value → World → Prop) : V173 a0 a1 w R = FnP CC { keep := fun _ => [], lin := fun _ => [] } Tryz.f173 [a0, a1] w R := by kernel_rfl
theorem call173 {a0 a1 : Value} {w : World} {R : Value → World → Prop} (h : V173 a0 a1 w R) : CallP CC 173 [a0, a1] w R :=
  call_of_vc CC.ok _ Tryz.func173 (V173_eq a0 a1 w R ▸ h)
def V41 (a0 a1 : Value) (w : World) (R : Value → World → Prop) : Prop :=
  BoxP CC 30 a0 w fun x2 w_1 =>
  BoxP CC 30 a1 w_1 fun x3 w_2 =>
  AllocP CC 30 w_2 fun x4 w_3 =>
  LoadP CC 30 x2 w_3 fun x5 w_4 =>
  LoadP CC 30 x3 w_4 fun x6 w_5 =>
  CallP CC 102 [(.string ⟨#[97, 100, 100]⟩), x5, x6] w_5 fun x7 w_6 =>
  StoreP CC 30 x4 x7 w_6 fun w_7 =>
  ∃ ad r, x4 = .pointer (some ad) ∧ (loadVar 30 ad).run CC.P w_7 = .ok r w_7 ∧
  R r w_7
theorem V41_eq (a0 a1 : Value) (w : World) (R : Value → World → Prop) : V41 a0 a1 w R = FnP CC { keep := fun _ => [], lin := fun _ => [] } Tryz.f41 [a0, a1] w R := by kernel_rfl
theorem call41 {a0 a1 : Value} {w : World} {R : Value → World → Prop} (h : V41 a0 a1 w R) : CallP CC 41 [a0, a1] w R :=
  call_of_vc CC.ok _ Tryz.func41 (V41_eq a0 a1 w R ▸ h)
def V44 (a0 a1 : Value) (w : World) (R : Value → World → Prop) : Prop :=
  BoxP CC 30 a0 w fun x2 w_1 =>
  BoxP CC 30 a1 w_1 fun x3 w_2 =>
  AllocP CC 30 w_2 fun x4 w_3 =>
  LoadP CC 30 x2 w_3 fun x5 w_4 =>
  LoadP CC 30 x3 w_4 fun x6 w_5 =>
  CallP CC 102 [(.string ⟨#[109, 117, 108]⟩), x5, x6] w_5 fun x7 w_6 =>
  StoreP CC 30 x4 x7 w_6 fun w_7 =>
  ∃ ad r, x4 = .pointer (some ad) ∧ (loadVar 30 ad).run CC.P w_7 = .ok r w_7 ∧
  R r w_7
theorem V44_eq (a0 a1 : Value) (w : World) (R : Value → World → Prop) : V44 a0 a1 w R = FnP CC { keep := fun _ => [], lin := fun _ => [] } Tryz.f44 [a0, a1] w R := by kernel_rfl
theorem call44 {a0 a1 : Value} {w : World} {R : Value → World → Prop} (h : V44 a0 a1 w R) : CallP CC 44 [a0, a1] w R :=
  call_of_vc CC.ok _ Tryz.func44 (V44_eq a0 a1 w R ▸ h)
def V129 (a0 a1 : Value) (w : World) (R : Value → World → Prop) : Prop :=
  BoxP CC 30 a0 w fun x2 w_1 =>
  BoxP CC 30 a1 w_1 fun x3 w_2 =>
  AllocP CC 30 w_2 fun x4 w_3 =>
  LoadP CC 30 x2 w_3 fun x5 w_4 =>
  LoadP CC 30 x3 w_4 fun x6 w_5 =>
  CallP CC 102 [(.string ⟨#[115, 117, 98]⟩), x5, x6] w_5 fun x7 w_6 =>
  StoreP CC 30 x4 x7 w_6 fun w_7 =>
  ∃ ad r, x4 = .pointer (some ad) ∧ (loadVar 30 ad).run CC.P w_7 = .ok r w_7 ∧
  R r w_7
theorem V129_eq (a0 a1 : Value) (w : World) (R : Value → World → Prop) : V129 a0 a1 w R = FnP CC { keep := fun _ => [], lin := fun _ => [] } Tryz.f129 [a0, a1] w R := by kernel_rfl
theorem call129 {a0 a1 : Value} {w : World} {R : Value → World → Prop} (h : V129 a0 a1 w R) : CallP CC 129 [a0, a1] w R :=
  call_of_vc CC.ok _ Tryz.func129 (V129_eq a0 a1 w R ▸ h)
def V151 (a0 : Value) (w : World) (R : Value → World → Prop) : Prop :=
  BoxP CC 30 a0 w fun x1 w_1 =>
  AllocP CC 30 w_1 fun x2 w_2 =>
  ∃ x3, buildV (tyOf tyTab 30) [] = some x3 ∧
  LoadP CC 30 x1 w_2 fun x4 w_3 =>
  CallP CC 129 [x3, x4] w_3 fun x5 w_4 =>
  StoreP CC 30 x2 x5 w_4 fun w_5 =>
  ∃ ad r, x2 = .pointer (some ad) ∧ (loadVar 30 ad).run CC.P w_5 = .ok r w_5 ∧
  R r w_5
theorem V151_eq (a0 : Value) (w : World) (R : Value → World → Prop) : V151 a0 w R = FnP CC { keep := fun _ => [], lin := fun _ => [] } Tryz.f151 [a0] w R := by kernel_rfl
theorem call151 {a0 : Value} {w : World} {R : Value → World → Prop} (h : V151 a0 w R) : CallP CC 151 [a0] w R :=
  call_of_vc CC.ok _ Tryz.func151 (V151_eq a0 w R ▸ h)
def V195 (a0 a1 : Value) (w : World) (R : Value → World → Prop) : Prop :=
  BoxP CC 30 a0 w fun x2 w_1 =>
  BoxP CC 30 a1 w_1 fun x3 w_2 =>
  AllocP CC 30 w_2 fun x4 w_3 =>
  LoadP CC 30 x3 w_3 fun x6 w_4 =>
  CallP CC 42 [x6] w_4 fun x7 w_5 =>
  ∃ x8, binV (.int .i64) .eql x7 (.int .i64 0) = some x8 ∧
  CondP x8 (
    ∃ x9, buildV (tyOf tyTab 30) [] = some x9 ∧
    StoreP CC 30 x4 x9 w_5 fun w_6 =>
    ∃ ad r, x4 = .pointer (some ad) ∧ (loadVar 30 ad).run CC.P w_6 = .ok r w_6 ∧
    R (.tuple #[r, (.int .i64 7)]) w_6) (
    LoadP CC 30 x2 w_5 fun x10 w_7 =>
    LoadP CC 30 x3 w_7 fun x11 w_8 =>
    CallP CC 102 [(.string ⟨#[100, 105, 118]⟩), x10, x11] w_8 fun x12 w_9 =>
    StoreP CC 30 x4 x12 w_9 fun w_10 =>
    ∃ ad_1 r_1, x4 = .pointer (some ad_1) ∧ (loadVar 30 ad_1).run CC.P w_10 = .ok r_1 w_10 ∧
    R (.tuple #[r_1, (.int .i64 0)]) w_10)
theorem V195_eq (a0 a1 : Value) (w : World) (R : Value → World → Prop) : V195 a0 a1 w R = FnP CC { keep := fun _ => [], lin := fun _ => [] } Tryz.f195 [a0, a1] w R := by kernel_rfl
theorem call195 {a0 a1 : Value} {w : World} {R : Value → World → Prop} (h : V195 a0 a1 w R) : CallP CC 195 [a0, a1] w R :=
  call_of_vc CC.ok _ Tryz.func195 (V195_eq a0 a1 w R ▸ h)
def V42 (a0 : Value) (w : World) (R : Value → World → Prop) : Prop :=
  BoxP CC 30 a0 w fun x1 w_1 =>
  LoadP CC 30 x1 w_1 fun x3 w_2 =>
  CallP CC 89 [x3] w_2 fun x4 w_3 =>
  ∃ x5, fieldV (tyOf tyTab 127) 0 x4 = some x5 ∧
  CallP CC 103 [x5] w_3 fun x6 w_4 =>
  R x6 w_4
theorem V42_eq (a0 : Value) (w : World) (R : Value → World → Prop) : V42 a0 w R = FnP CC { keep := fun _ => [], lin := fun _ => [] } Tryz.f42 [a0] w R := by kernel_rfl
theorem call42 {a0 : Value} {w : World} {R : Value → World → Prop} (h : V42 a0 w R) : CallP CC 42 [a0] w R :=
  call_of_vc CC.ok _ Tryz.func42 (V42_eq a0 w R ▸ h)
def V33 (a0 a1 : Value) (w : World) (R : Value → World → Prop) : Prop :=
  BoxP CC 30 a0 w fun x2 w_1 =>
  BoxP CC 30 a1 w_1 fun x3 w_2 =>
  ∃ (T : World → World → Prop) (L : List Value → World → Prop), (∀ a b, Grow a b → T a b) ∧ (∀ a b c, T a b → T b c → T a c) ∧ (∀ w', Grow w_2 w' → L [] w') ∧
  ∃ A7 A8 A9 A10 A5 A6 As6 As7 : Value → World → Prop,
  (∀ z, T w_2 z → (LoadP CC 30 x2 z fun x y => Grow z y ∧ ∀ w'', T y w'' → A7 x w'')) ∧
  (∀ v7 : Value, ∀ z, T w_2 z → A7 v7 z → (CallP CC 89 [v7] z fun x y => Grow z y ∧ ∀ w'', T y w'' → A8 x w'')) ∧
  (∀ v7 v8 : Value, ∀ z, T w_2 z → (LoadP CC 30 x3 z fun x y => Grow z y ∧ ∀ w'', T y w'' → A9 x w'')) ∧
  (∀ v7 v8 v9 : Value, ∀ z, T w_2 z → A7 v7 z → A8 v8 z → A9 v9 z → (CallP CC 89 [v9] z fun x y => Grow z y ∧ ∀ w'', T y w'' → A10 x w'')) ∧
  (∀ v7 v8 v9 v10 : Value, ∀ z, T w_2 z → (AllocP CC 127 z fun x y => Grow z y ∧ ∀ w'', T y w'' → A5 x w'')) ∧
  (∀ v7 v8 v9 v10 v5 : Value, ∀ z, T w_2 z → (AllocP CC 127 z fun x y => Grow z y ∧ ∀ w'', T y w'' → A6 x w'')) ∧
  (∀ v7 v8 v9 v10 v5 v6 : Value, ∀ z, T w_2 z → L [] z → blkOf v5 ≠ blkOf v6 → A7 v7 z → A8 v8 z → A9 v9 z → A10 v10 z → A5 v5 z → A6 v6 z → StoreP CC 127 v5 v8 z fun y => T z y ∧ (∀ w'', T y w'' → As6 undef w'') ∧ ∀ w'', Grow y w'' → L [v5] w'') ∧
  (∀ v7 v8 v9 v10 v5 v6 vs6 : Value, ∀ z, T w_2 z → L [v5] z → blkOf v5 ≠ blkOf v6 → A7 v7 z → A8 v8 z → A9 v9 z → A10 v10 z → A5 v5 z → A6 v6 z → As6 vs6 z → StoreP CC 127 v6 v10 z fun y => T z y ∧ (∀ w'', T y w'' → As7 undef w'') ∧ ∀ w'', Grow y w'' → L [v5, v6] w'') ∧
  ∀ v7 v8 v9 v10 v5 v6 vs6 vs7 : Value, ∀ (h : Nat → Value) (w_3 : World), T w_2 w_3 → blkOf v5 ≠ blkOf v6 → A7 v7 w_3 → A8 v8 w_3 → A9 v9 w_3 → A10 v10 w_3 → A5 v5 w_3 → A6 v6 w_3 → As6 vs6 w_3 → As7 vs7 w_3 → L [v5, v6] w_3 → 
  ∃ A12 A14 A15 A17 A19 A20 A21 : Value → World → Prop,
  (∀ z, Grow w_3 z → (∃ v, fieldAddrV (tyOf tyTab 127) 0 v5 = some v)) ∧
  (∀ z, Grow w_3 z → (LoadP CC 28 ((fieldAddrV (tyOf tyTab 127) 0 v5).getD undef) z fun x y => Grow z y ∧ ∀ w'', Grow y w'' → A12 x w'')) ∧
  (∀ v12 : Value, ∀ z, Grow w_3 z → (∃ v, fieldAddrV (tyOf tyTab 127) 1 v6 = some v)) ∧
  (∀ v12 : Value, ∀ z, Grow w_3 z → (LoadP CC 28 ((fieldAddrV (tyOf tyTab 127) 1 v6).getD undef) z fun x y => Grow z y ∧ ∀ w'', Grow y w'' → A14 x w'')) ∧
  (∀ v12 v14 : Value, ∀ z, Grow w_3 z → A12 v12 z → A14 v14 z → (CallP CC 91 [v12, v14] z fun x y => Grow z y ∧ ∀ w'', Grow y w'' → A15 x w'')) ∧
  (∀ v12 v14 v15 : Value, ∀ z, Grow w_3 z → (∃ v, fieldAddrV (tyOf tyTab 127) 0 v6 = some v)) ∧
  (∀ v12 v14 v15 : Value, ∀ z, Grow w_3 z → (LoadP CC 28 ((fieldAddrV (tyOf tyTab 127) 0 v6).getD undef) z fun x y => Grow z y ∧ ∀ w'', Grow y w'' → A17 x w'')) ∧
  (∀ v12 v14 v15 v17 : Value, ∀ z, Grow w_3 z → (∃ v, fieldAddrV (tyOf tyTab 127) 1 v5 = some v)) ∧
  (∀ v12 v14 v15 v17 : Value, ∀ z, Grow w_3 z → (LoadP CC 28 ((fieldAddrV (tyOf tyTab 127) 1 v5).getD undef) z fun x y => Grow z y ∧ ∀ w'', Grow y w'' → A19 x w'')) ∧
  (∀ v12 v14 v15 v17 v19 : Value, ∀ z, Grow w_3 z → A12 v12 z → A14 v14 z → A15 v15 z → A17 v17 z → A19 v19 z → (CallP CC 91 [v17, v19] z fun x y => Grow z y ∧ ∀ w'', Grow y w'' → A20 x w'')) ∧
  (∀ v12 v14 v15 v17 v19 v20 : Value, ∀ z, Grow w_3 z → A12 v12 z → A14 v14 z → A15 v15 z → A17 v17 z → A19 v19 z → A20 v20 z → (CallP CC 90 [v15, v20] z fun x y => Grow z y ∧ ∀ w'', Grow y w'' → A21 x w'')) ∧
  ∀ v12 v14 v15 v17 v19 v20 v21 : Value, ∀ (h_1 : Nat → Value) (w_4 : World), Grow w_3 w_4 → A12 v12 w_4 → A14 v14 w_4 → A15 v15 w_4 → A17 v17 w_4 → A19 v19 w_4 → A20 v20 w_4 → A21 v21 w_4 → 
  R v21 w_4
theorem V33_eq (a0 a1 : Value) (w : World) (R : Value → World → Prop) : V33 a0 a1 w R = FnP CC { keep := fun _ => [], lin := fun _ => [] } Tryz.f33 [a0, a1] w R := by kernel_rfl
theorem call33 {a0 a1 : Value} {w : World} {R : Value → World → Prop} (h : V33 a0 a1 w R) : CallP CC 33 [a0, a1] w R :=
  call_of_vc CC.ok _ Tryz.func33 (V33_eq a0 a1 w R ▸ h)
def V47 (a0 a1 : Value) (w : World) (R : Value → World → Prop) : Prop :=
  BoxP CC 30 a0 w fun x2 w_1 =>
  BoxP CC 30 a1 w_1 fun x3 w_2 =>
  LoadP CC 30 x2 w_2 fun x5 w_3 =>
  LoadP CC 30 x3 w_3 fun x6 w_4 =>
  CallP CC 33 [x5, x6] w_4 fun x7 w_5 =>
  ∃ x8, binV (.int .i64) .eql x7 (.int .i64 0) = some x8 ∧
  R x8 w_5
theorem V47_eq (a0 a1 : Value) (w : World) (R : Value → World → Prop) : V47 a0 a1 w R = FnP CC { keep := fun _ => [], lin := fun _ => [] } Tryz.f47 [a0, a1] w R := by kernel_rfl
theorem call47 {a0 a1 : Value} {w : World} {R : Value → World → Prop} (h : V47 a0 a1 w R) : CallP CC 47 [a0, a1] w R :=
  call_of_vc CC.ok _ Tryz.func47 (V47_eq a0 a1 w R ▸ h)
def V36 (a0 : Value) (w : World) (R : Value → World → Prop) : Prop :=
  AllocP CC 30 w fun x2 w_1 =>
  CallP CC 96 [a0] w_1 fun x4 w_2 =>
  ∃ x5, buildV (tyOf tyTab 30) [(0, x4)] = some x5 ∧
  StoreP CC 30 x2 x5 w_2 fun w_3 =>
  ∃ ad r, x2 = .pointer (some ad) ∧ (loadVar 30 ad).run CC.P w_3 = .ok r w_3 ∧
  R r w_3
theorem V36_eq (a0 : Value) (w : World) (R : Value → World → Prop) : V36 a0 w R = FnP CC { keep := fun _ => [], lin := fun _ => [] } Tryz.f36 [a0] w R := by kernel_rfl
theorem call36 {a0 : Value} {w : World} {R : Value → World → Prop} (h : V36 a0 w R) : CallP CC 36 [a0] w R :=
  call_of_vc CC.ok _ Tryz.func36 (V36_eq a0 w R ▸ h)
end Go.Proofs.YtaajkcngcalgoaaGreat
set_option maxRecDepth 100000
set_option linter.unusedVariables false
namespace Go.Proofs.YtaajkcngcalgoaaGreat
open Go Go.Vc
def V157 (a0 : Value) (w : World) (R : Value → World → Prop) : Prop :=
  ∃ (I : Value → World → Prop) (μ : Value → World → Nat), I a0 w ∧
  ∀ y0 : Value, ∀ (h : Nat → Value) (w_1 : World), I y0 w_1 →
    ∃ A12 : Value → World → Prop,
    (∀ z, Grow w_1 z → (∃ v, lenV (tyOf tyTab 26) y0 = some v)) ∧
    (∀ z, Grow w_1 z → (∃ v, binV (.int .i64) .gtr ((lenV (tyOf tyTab 26) y0).getD undef) (.int .i64 0) = some v)) ∧
    (∀ z, Grow w_1 z → (((binV (.int .i64) .gtr ((lenV (tyOf tyTab 26) y0).getD undef) (.int .i64 0)).getD undef) = .bool true → (∃ v, lenV (tyOf tyTab 26) y0 = some v))) ∧
    (∀ z, Grow w_1 z → (((binV (.int .i64) .gtr ((lenV (tyOf tyTab 26) y0).getD undef) (.int .i64 0)).getD undef) = .bool true → (∃ v, binV (.int .i64) .sub ((lenV (tyOf tyTab 26) y0).getD undef) (.int .i64 1) = some v))) ∧
    (∀ z, Grow w_1 z → (((binV (.int .i64) .gtr ((lenV (tyOf tyTab 26) y0).getD undef) (.int .i64 0)).getD undef) = .bool true → (∃ v, indexAddrV (tyOf tyTab 26) y0 ((binV (.int .i64) .sub ((lenV (tyOf tyTab 26) y0).getD undef) (.int .i64 1)).getD undef) = some v))) ∧
    (∀ z, Grow w_1 z → (((binV (.int .i64) .gtr ((lenV (tyOf tyTab 26) y0).getD undef) (.int .i64 0)).getD undef) = .bool true → (LoadP CC 199 ((indexAddrV (tyOf tyTab 26) y0 ((binV (.int .i64) .sub ((lenV (tyOf tyTab 26) y0).getD undef) (.int .i64 1)).getD undef)).getD undef) z fun x y => Grow z y ∧ ∀ w'', Grow y w'' → A12 x w''))) ∧
    (∀ v12 : Value, ∀ z, Grow w_1 z → (((binV (.int .i64) .gtr ((lenV (tyOf tyTab 26) y0).getD undef) (.int .i64 0)).getD undef) = .bool true → A12 v12 z) → (((binV (.int .i64) .gtr ((lenV (tyOf tyTab 26) y0).getD undef) (.int .i64 0)).getD undef) = .bool true → (∃ v, binV (.int .u32) .eql v12 (.int .u32 0) = some v))) ∧
    (∀ v12 : Value, ∀ z, Grow w_1 z → (((binV (.int .i64) .gtr ((lenV (tyOf tyTab 26) y0).getD undef) (.int .i64 0)).getD undef) = .bool true → A12 v12 z) → (∃ v, pickV ((binV (.int .i64) .gtr ((lenV (tyOf tyTab 26) y0).getD undef) (.int .i64 0)).getD undef) ((binV (.int .u32) .eql v12 (.int .u32 0)).getD undef) (.bool false) = some v)) ∧
    ∀ v12 : Value, ∀ (h_1 : Nat → Value) (w_2 : World), Grow w_1 w_2 → (((binV (.int .i64) .gtr ((lenV (tyOf tyTab 26) y0).getD undef) (.int .i64 0)).getD undef) = .bool true → A12 v12 w_2) → 
    CondP ((pickV ((binV (.int .i64) .gtr ((lenV (tyOf tyTab 26) y0).getD undef) (.int .i64 0)).getD undef) ((binV (.int .u32) .eql v12 (.int .u32 0)).getD undef) (.bool false)).getD undef) (
      ∃ x17, lenV (tyOf tyTab 26) y0 = some x17 ∧
      ∃ x18, binV (.int .i64) .sub x17 (.int .i64 1) = some x18 ∧
      ∃ x19, sliceV (tyOf tyTab 26) y0 none (some x18) = some x19 ∧
      I x19 w_2 ∧ μ x19 w_2 < μ y0 w_1) (
      R y0 w_2)
theorem V157_eq (a0 : Value) (w : World) (R : Value → World → Prop) : V157 a0 w R = FnP CC { keep := fun | 1 => [0] | _ => [], lin := fun _ => [] } Tryz.f157 [a0] w R := by kernel_rfl
theorem call157 {a0 : Value} {w : World} {R : Value → World → Prop} (h : V157 a0 w R) : CallP CC 157 [a0] w R :=
  call_of_vc CC.ok _ Tryz.func157 (V157_eq a0 w R ▸ h)
def V155 (a0 a1 : Value) (w : World) (R : Value → World → Prop) : Prop :=
  AllocP CC 28 w fun x4 w_1 =>
  CallP CC 157 [a1] w_1 fun x6 w_2 =>
  ∃ (T : World → World → Prop) (L : List Value → World → Prop), (∀ a b, Grow a b → T a b) ∧ (∀ a b c, T a b → T b c → T a c) ∧ (∀ w', Grow w_2 w' → L [] w') ∧
  ∃ As8 : Value → World → Prop,
  (∀ z, T w_2 z → (a0 = .bool true → (∃ v, lenV (tyOf tyTab 26) x6 = some v))) ∧
  (∀ z, T w_2 z → (a0 = .bool true → (∃ v, binV (.int .i64) .gtr ((lenV (tyOf tyTab 26) x6).getD undef) (.int .i64 0) = some v))) ∧
  (∀ z, T w_2 z → (∃ v, pickV a0 ((binV (.int .i64) .gtr ((lenV (tyOf tyTab 26) x6).getD undef) (.int .i64 0)).getD undef) (.bool false) = some v)) ∧
  (∀ z, T w_2 z → (∃ v, buildV (tyOf tyTab 28) [(0, ((pickV a0 ((binV (.int .i64) .gtr ((lenV (tyOf tyTab 26) x6).getD undef) (.int .i64 0)).getD undef) (.bool false)).getD undef)), (1, x6)] = some v)) ∧
  (∀ z, T w_2 z → L [] z → StoreP CC 28 x4 ((buildV (tyOf tyTab 28) [(0, ((pickV a0 ((binV (.int .i64) .gtr ((lenV (tyOf tyTab 26) x6).getD undef) (.int .i64 0)).getD undef) (.bool false)).getD undef)), (1, x6)]).getD undef) z fun y => T z y ∧ (∀ w'', T y w'' → As8 undef w'') ∧ ∀ w'', Grow y w'' → L [x4] w'') ∧
  ∀ vs8 : Value, ∀ (h : Nat → Value) (w_3 : World), T w_2 w_3 → As8 vs8 w_3 → L [x4] w_3 → 
  ∃ ad r, x4 = .pointer (some ad) ∧ (loadVar 28 ad).run CC.P w_3 = .ok r w_3 ∧
  R r w_3
theorem V155_eq (a0 a1 : Value) (w : World) (R : Value → World → Prop) : V155 a0 a1 w R = FnP CC { keep := fun _ => [], lin := fun _ => [] } Tryz.f155 [a0, a1] w R := by kernel_rfl
theorem call155 {a0 a1 : Value} {w : World} {R : Value → World → Prop} (h : V155 a0 a1 w R) : CallP CC 155 [a0, a1] w R :=
  call_of_vc CC.ok _ Tryz.func155 (V155_eq a0 a1 w R ▸ h)
def V96 (a0 : Value) (w : World) (R : Value → World → Prop) : Prop :=
  AllocP CC 28 w fun x2 w_1 =>
  ∃ x5, convV (.int .u64) a0 = some x5 ∧
  ∃ x7, binV (.int .i64) .lss a0 (.int .i64 0) = some x7 ∧
  CondP x7 (
    ∃ x9, unV .neg x5 = some x9 ∧
    ∃ x11, binV (.int .i64) .lss a0 (.int .i64 0) = some x11 ∧
    ∃ x13, convV (.int .u32) x9 = some x13 ∧
    ∃ x15, binV (.int .u64) .shr x9 (.int .u64 32) = some x15 ∧
    ∃ x16, convV (.int .u32) x15 = some x16 ∧
    LitP CC 26 2 [(0, x13), (1, x16)] w_1 fun x17 w_2 =>
    CallP CC 155 [x11, x17] w_2 fun x18 w_3 =>
    StoreP CC 28 x2 x18 w_3 fun w_4 =>
    ∃ ad r, x2 = .pointer (some ad) ∧ (loadVar 28 ad).run CC.P w_4 = .ok r w_4 ∧
    R r w_4) (
    ∃ x11_1, binV (.int .i64) .lss a0 (.int .i64 0) = some x11_1 ∧
    ∃ x13_1, convV (.int .u32) x5 = some x13_1 ∧
    ∃ x15_1, binV (.int .u64) .shr x5 (.int .u64 32) = some x15_1 ∧
    ∃ x16_1, convV (.int .u32) x15_1 = some x16_1 ∧
    LitP CC 26 2 [(0, x13_1), (1, x16_1)] w_1 fun x17_1 w_5 =>
    CallP CC 155 [x11_1, x17_1] w_5 fun x18_1 w_6 =>
    StoreP CC 28 x2 x18_1 w_6 fun w_7 =>
    ∃ ad_1 r_1, x2 = .pointer (some ad_1) ∧ (loadVar 28 ad_1).run CC.P w_7 = .ok r_1 w_7 ∧
    R r_1 w_7)
theorem V96_eq (a0 : Value) (w : World) (R : Value → World → Prop) : V96 a0 w R = FnP CC { keep := fun _ => [], lin := fun _ => [] } Tryz.f96 [a0] w R := by kernel_rfl
theorem call96 {a0 : Value} {w : World} {R : Value → World → Prop} (h : V96 a0 w R) : CallP CC 96 [a0] w R :=
  call_of_vc CC.ok _ Tryz.func96 (V96_eq a0 w R ▸ h)
def V103 (a0 : Value) (w : World) (R : Value → World → Prop) : Prop :=
  BoxP CC 28 a0 w fun x1 w_1 =>
  ∃ x4, fieldAddrV (tyOf tyTab 28) 1 x1 = some x4 ∧
  LoadP CC 26 x4 w_1 fun x5 w_2 =>
  CallP CC 157 [x5] w_2 fun x6 w_3 =>
  ∃ x7, lenV (tyOf tyTab 26) x6 = some x7 ∧
  ∃ x8, binV (.int .i64) .eql x7 (.int .i64 0) = some x8 ∧
  CondP x8 (
    R (.int .i64 0) w_3) (
    ∃ x10, fieldAddrV (tyOf tyTab 28) 0 x1 = some x10 ∧
    LoadP CC 4 x10 w_3 fun x11 w_4 =>
    CondP x11 (
      R (.int .i64 (-1)) w_4) (
      R (.int .i64 1) w_4))
theorem V103_eq (a0 : Value) (w : World) (R : Value → World → Prop) : V103 a0 w R = FnP CC { keep := fun _ => [], lin := fun _ => [] } Tryz.f103 [a0] w R := by kernel_rfl
theorem call103 {a0 : Value} {w : World} {R : Value → World → Prop} (h : V103 a0 w R) : CallP CC 103 [a0] w R :=
  call_of_vc CC.ok _ Tryz.func103 (V103_eq a0 w R ▸ h)
def V199 (a0 : Value) (w : World) (R : Value → World → Prop) : Prop :=
  EqP CC .eql 26 (.tmp 3) (.const (.slice none 0 0)) a0 (.slice none 0 0) w fun x4 w_1 =>
  CondP x4 (
    R (.slice none 0 0) w_1) (
    LitP CC 26 0 [] w_1 fun x5 w_2 =>
    AppendP CC #[26, 26] 26 [x5, a0] w_2 fun x7 w_3 =>
    R x7 w_3)
theorem V199_eq (a0 : Value) (w : World) (R : Value → World → Prop) : V199 a0 w R = FnP CC { keep := fun _ => [], lin := fun _ => [] } Tryz.f199 [a0] w R := by kernel_rfl
theorem call199 {a0 : Value} {w : World} {R : Value → World → Prop} (h : V199 a0 w R) : CallP CC 199 [a0] w R :=
  call_of_vc CC.ok _ Tryz.func199 (V199_eq a0 w R ▸ h)
def V153 (a0 : Value) (w : World) (R : Value → World → Prop) : Prop :=
  BoxP CC 28 a0 w fun x1 w_1 =>
  AllocP CC 28 w_1 fun x2 w_2 =>
  ∃ (T : World → World → Prop) (L : List Value → World → Prop), (∀ a b, Grow a b → T a b) ∧ (∀ a b c, T a b → T b c → T a c) ∧ (∀ w', Grow w_2 w' → L [] w') ∧
  ∃ A4 A7 A8 A9 As7 : Value → World → Prop,
  (∀ z, T w_2 z → (∃ v, fieldAddrV (tyOf tyTab 28) 0 x1 = some v)) ∧
  (∀ z, T w_2 z → (LoadP CC 4 ((fieldAddrV (tyOf tyTab 28) 0 x1).getD undef) z fun x y => Grow z y ∧ ∀ w'', T y w'' → A4 x w'')) ∧
  (∀ v4 : Value, ∀ z, T w_2 z → A4 v4 z → (∃ v, unV .not v4 = some v)) ∧
  (∀ v4 : Value, ∀ z, T w_2 z → (∃ v, fieldAddrV (tyOf tyTab 28) 1 x1 = some v)) ∧
  (∀ v4 : Value, ∀ z, T w_2 z → (LoadP CC 26 ((fieldAddrV (tyOf tyTab 28) 1 x1).getD undef) z fun x y => Grow z y ∧ ∀ w'', T y w'' → A7 x w'')) ∧
  (∀ v4 v7 : Value, ∀ z, T w_2 z → A7 v7 z → (CallP CC 199 [v7] z fun x y => Grow z y ∧ ∀ w'', T y w'' → A8 x w'')) ∧
  (∀ v4 v7 v8 : Value, ∀ z, T w_2 z → A4 v4 z → A7 v7 z → A8 v8 z → (CallP CC 155 [((unV .not v4).getD undef), v8] z fun x y => Grow z y ∧ ∀ w'', T y w'' → A9 x w'')) ∧
  (∀ v4 v7 v8 v9 : Value, ∀ z, T w_2 z → L [] z → A4 v4 z → A7 v7 z → A8 v8 z → A9 v9 z → StoreP CC 28 x2 v9 z fun y => T z y ∧ (∀ w'', T y w'' → As7 undef w'') ∧ ∀ w'', Grow y w'' → L [x2] w'') ∧
  ∀ v4 v7 v8 v9 vs7 : Value, ∀ (h : Nat → Value) (w_3 : World), T w_2 w_3 → A4 v4 w_3 → A7 v7 w_3 → A8 v8 w_3 → A9 v9 w_3 → As7 vs7 w_3 → L [x2] w_3 → 
  ∃ ad r, x2 = .pointer (some ad) ∧ (loadVar 28 ad).run CC.P w_3 = .ok r w_3 ∧
  R r w_3
theorem V153_eq (a0 : Value) (w : World) (R : Value → World → Prop) : V153 a0 w R = FnP CC { keep := fun _ => [], lin := fun _ => [] } Tryz.f153 [a0] w R := by kernel_rfl
theorem call153 {a0 : Value} {w : World} {R : Value → World → Prop} (h : V153 a0 w R) : CallP CC 153 [a0] w R :=
  call_of_vc CC.ok _ Tryz.func153 (V153_eq a0 w R ▸ h)
def V232 (a0 a1 a2 : Value) (w : World) (R : Value → World → Prop) : Prop :=
  LoadP CC 198 a1 w fun x5 w_1 =>
  ∃ x6, binV (.int .u64) .add a0 x5 = some x6 ∧
  LoadP CC 26 a2 w_1 fun x7 w_2 =>
  ∃ x9, convV (.int .u32) x6 = some x9 ∧
  LitP CC 26 1 [(0, x9)] w_2 fun x10 w_3 =>
  AppendP CC #[26, 26] 26 [x7, x10] w_3 fun x11 w_4 =>
  ∃ x13, binV (.int .u64) .shr x6 (.int .u64 32) = some x13 ∧
  StoreP CC 26 a2 x11 w_4 fun w_5 =>
  StoreP CC 198 a1 x13 w_5 fun w_6 =>
  R (.tuple #[]) w_6
theorem V232_eq (a0 a1 a2 : Value) (w : World) (R : Value → World → Prop) : V232 a0 a1 a2 w R = FnP CC { keep := fun _ => [], lin := fun _ => [] } Tryz.f232 [a0, a1, a2] w R := by kernel_rfl
theorem call232 {a0 a1 a2 : Value} {w : World} {R : Value → World → Prop} (h : V232 a0 a1 a2 w R) : CallP CC 232 [a0, a1, a2] w R :=
  call_of_vc CC.ok _ Tryz.func232 (V232_eq a0 a1 a2 w R ▸ h)
def V233 (a0 a1 : Value) (w : World) (R : Value → World → Prop) : Prop :=
  LoadP CC 26 a0 w fun x3 w_1 =>
  LoadP CC 198 a1 w_1 fun x4 w_2 =>
  ∃ x5, convV (.int .u32) x4 = some x5 ∧
  LitP CC 26 1 [(0, x5)] w_2 fun x6 w_3 =>
  AppendP CC #[26, 26] 26 [x3, x6] w_3 fun x7 w_4 =>
  R x7 w_4
theorem V233_eq (a0 a1 : Value) (w : World) (R : Value → World → Prop) : V233 a0 a1 w R = FnP CC { keep := fun _ => [], lin := fun _ => [] } Tryz.f233 [a0, a1] w R := by kernel_rfl
theorem call233 {a0 a1 : Value} {w : World} {R : Value → World → Prop} (h : V233 a0 a1 w R) : CallP CC 233 [a0, a1] w R :=
  call_of_vc CC.ok _ Tryz.func233 (V233_eq a0 a1 w R ▸ h)
def V223 (w : World) (R : Value → World → Prop) : Prop :=
  AllocP CC 26 w fun x2 w_1 =>
  AllocP CC 198 w_1 fun x3 w_2 =>
  StoreP CC 198 x3 (.int .u64 0) w_2 fun w_3 =>
  ∃ x4, some (Value.func (.func 232) #[] #[x3, x2]) = some x4 ∧
  ∃ x6, some (Value.func (.func 233) #[] #[x2, x3]) = some x6 ∧
  R (.tuple #[x4, x6]) w_3
theorem V223_eq (w : World) (R : Value → World → Prop) : V223  w R = FnP CC { keep := fun _ => [], lin := fun _ => [] } Tryz.f223 [] w R := by kernel_rfl
theorem call223 {w : World} {R : Value → World → Prop} (h : V223  w R) : CallP CC 223 [] w R :=
  call_of_vc CC.ok _ Tryz.func223 (V223_eq  w R ▸ h)
def V234 (y : Nat) (a0 a1 a2 : Value) (w : World) (R : Value → World → Prop) : Prop :=
  LoadP (CY y) 26 a1 w fun x7 w_1 =>
  ∃ x8, lenV (tyOf tyTab 26) x7 = some x8 ∧
  LoadP (CY y) 26 a2 w_1 fun x9 w_2 =>
  ∃ x10, lenV (tyOf tyTab 26) x9 = some x10 ∧
  ∃ x11, maxV x8 x10 = some x11 ∧
  ∃ (I : Value → World → Prop) (μ : Value → World → Nat), I (.int .i64 0) w_2 ∧
  ∀ y12 : Value, ∀ (h : Nat → Value) (w_3 : World), I y12 w_3 →
    ∃ x13, binV (.int .i64) .lss y12 x11 = some x13 ∧
    CondP x13 (
      LoadP (CY y) 26 a1 w_3 fun x16 w_4 =>
      ∃ x17, lenV (tyOf tyTab 26) x16 = some x17 ∧
      ∃ x18, binV (.int .i64) .lss y12 x17 = some x18 ∧
      CondP x18 (
        LoadP (CY y) 26 a1 w_4 fun x19 w_5 =>
        ∃ x21, indexAddrV (tyOf tyTab 26) x19 y12 = some x21 ∧
        LoadP (CY y) 199 x21 w_5 fun x22 w_6 =>
        ∃ x23, convV (.int .u64) x22 = some x23 ∧
        LoadP (CY y) 26 a2 w_6 fun x25 w_7 =>
        ∃ x26, lenV (tyOf tyTab 26) x25 = some x26 ∧
        ∃ x27, binV (.int .i64) .lss y12 x26 = some x27 ∧
        CondP x27 (
          LoadP (CY y) 26 a2 w_7 fun x28 w_8 =>
          ∃ x30, indexAddrV (tyOf tyTab 26) x28 y12 = some x30 ∧
          LoadP (CY y) 199 x30 w_8 fun x31 w_9 =>
          ∃ x32, convV (.int .u64) x31 = some x32 ∧
          callV (CY y) a0 [x23, x32] w_9 fun x36 w_10 =>
          ∃ x37, unV .not x36 = some x37 ∧
          CondP x37 (
            R (.tuple #[]) w_10) (
            ∃ x38, binV (.int .i64) .add y12 (.int .i64 1) = some x38 ∧
            I x38 w_10 ∧ μ x38 w_10 < μ y12 w_3)) (
          callV (CY y) a0 [x23, (.int .u64 0)] w_7 fun x36_1 w_11 =>
          ∃ x37_1, unV .not x36_1 = some x37_1 ∧
          CondP x37_1 (
            R (.tuple #[]) w_11) (
            ∃ x38_1, binV (.int .i64) .add y12 (.int .i64 1) = some x38_1 ∧
            I x38_1 w_11 ∧ μ x38_1 w_11 < μ y12 w_3))) (
        LoadP (CY y) 26 a2 w_4 fun x25_1 w_12 =>
        ∃ x26_1, lenV (tyOf tyTab 26) x25_1 = some x26_1 ∧
        ∃ x27_1, binV (.int .i64) .lss y12 x26_1 = some x27_1 ∧
        CondP x27_1 (
          LoadP (CY y) 26 a2 w_12 fun x28_1 w_13 =>
          ∃ x30_1, indexAddrV (tyOf tyTab 26) x28_1 y12 = some x30_1 ∧
          LoadP (CY y) 199 x30_1 w_13 fun x31_1 w_14 =>
          ∃ x32_1, convV (.int .u64) x31_1 = some x32_1 ∧
          callV (CY y) a0 [(.int .u64 0), x32_1] w_14 fun x36_2 w_15 =>
          ∃ x37_2, unV .not x36_2 = some x37_2 ∧
          CondP x37_2 (
            R (.tuple #[]) w_15) (
            ∃ x38_2, binV (.int .i64) .add y12 (.int .i64 1) = some x38_2 ∧
            I x38_2 w_15 ∧ μ x38_2 w_15 < μ y12 w_3)) (
          callV (CY y) a0 [(.int .u64 0), (.int .u64 0)] w_12 fun x36_3 w_16 =>
          ∃ x37_3, unV .not x36_3 = some x37_3 ∧
          CondP x37_3 (
            R (.tuple #[]) w_16) (
            ∃ x38_3, binV (.int .i64) .add y12 (.int .i64 1) = some x38_3 ∧
            I x38_3 w_16 ∧ μ x38_3 w_16 < μ y12 w_3)))) (
      R (.tuple #[]) w_3)
theorem V234_eq (y : Nat) (a0 a1 a2 : Value) (w : World) (R : Value → World → Prop) : V234 y a0 a1 a2 w R = FnP (CY y) { keep := fun | 1 => [12] | _ => [], lin := fun _ => [] } Tryz.f234 [a0, a1, a2] w R := by kernel_rfl
theorem call234 {y : Nat} {a0 a1 a2 : Value} {w : World} {R : Value → World → Prop} (h : V234 y a0 a1 a2 w R) : CallP (CY y) 234 [a0, a1, a2] w R :=
  call_of_vc (CY.ok y) _ Tryz.func234 (V234_eq y a0 a1 a2 w R ▸ h)
def V224 (a0 a1 : Value) (w : World) (R : Value → World → Prop) : Prop :=
  BoxP CC 26 a0 w fun x2 w_1 =>
  BoxP CC 26 a1 w_1 fun x3 w_2 =>
  ∃ x5, some (Value.func (.func 234) #[] #[x2, x3]) = some x5 ∧
  R x5 w_2
theorem V224_eq (a0 a1 : Value) (w : World) (R : Value → World → Prop) : V224 a0 a1 w R = FnP CC { keep := fun _ => [], lin := fun _ => [] } Tryz.f224 [a0, a1] w R := by kernel_rfl
theorem call224 {a0 a1 : Value} {w : World} {R : Value → World → Prop} (h : V224 a0 a1 w R) : CallP CC 224 [a0, a1] w R :=
  call_of_vc CC.ok _ Tryz.func224 (V224_eq a0 a1 w R ▸ h)
def V209 (a0 a1 : Value) (w : World) (R : Value → World → Prop) : Prop :=
  CallP CC 223 [] w fun x10 w_1 =>
  ∃ x11, extrV x10 0 = some x11 ∧
  ∃ x12, extrV x10 1 = some x12 ∧
  AllocP CC 251 w_1 fun x5 w_2 =>
  StoreP CC 251 x5 x11 w_2 fun w_3 =>
  CallP CC 224 [a0, a1] w_3 fun x15 w_4 =>
  ∃ f cap, x15 = .func (.func f) #[] cap ∧ hasB f = true ∧ ∃ Stay N Args, Iter CC f cap.toList w_4 Stay N Args ∧ (∀ k w' vs, Args k w' vs → vs.length = 2) ∧ ∃ (I : Nat → World → Prop) (J : Jmp → World → Prop),
  (∀ w', Vc.Sys w_4.heap.size w_4 w' → I 0 w') ∧ (∀ k w', I k w' → Stay k w') ∧
  (∀ k, k < N → ∀ x16 : Value, ∀ x17 : Value, ∀ w_5, I k w_5 → Args k w_5 [x16, x17] →
    ∀ w_6, Vc.Sys w_4.heap.size w_5 w_6 →
    LoadP CC 251 x5 w_6 fun x18 w_9 =>
    ∃ x21, binV (.int .u64) .add x16 x17 = some x21 ∧
    callV CC x18 [x21] w_9 fun x22 w_10 =>
    ∀ w', Vc.Sys w_4.heap.size w_10 w' → I (k + 1) w') ∧
  (∀ w_7, I N w_7 →
    callV CC x12 [] w_7 fun x24 w_11 =>
    ∀ w_12, Vc.Sys w.heap.size w_11 w_12 →
    R x24 w_12) ∧
  (∀ j w_8, J j w_8 → match j with
    | .ret =>
      ∀ w_13, Vc.Sys w.heap.size w_8 w_13 →
      R (.slice none 0 0) w_13
    | .exit i =>
      if i = 0 then (
        callV CC x12 [] w_8 fun x24_1 w_14 =>
        ∀ w_15, Vc.Sys w.heap.size w_14 w_15 →
        R x24_1 w_15) else
      False)
theorem V209_eq (a0 a1 : Value) (w : World) (R : Value → World → Prop) : V209 a0 a1 w R = FnP CC { keep := fun _ => [], lin := fun _ => [] } Tryz.f209 [a0, a1] w R := by kernel_rfl
theorem call209 {a0 a1 : Value} {w : World} {R : Value → World → Prop} (h : V209 a0 a1 w R) : CallP CC 209 [a0, a1] w R :=
  call_of_vc CC.ok _ Tryz.func209 (V209_eq a0 a1 w R ▸ h)
def V210 (a0 a1 : Value) (w : World) (R : Value → World → Prop) : Prop :=
  ∃ x10, lenV (tyOf tyTab 26) a0 = some x10 ∧
  ∃ x12, lenV (tyOf tyTab 26) a1 = some x12 ∧
  ∃ x13, binV (.int .i64) .sub x10 x12 = some x13 ∧
  ∃ x15, binV (.int .i64) .neq x13 (.int .i64 0) = some x15 ∧
  CondP x15 (
    ∀ w_1, Vc.Sys w.heap.size w w_1 →
    R x13 w_1) (
    AllocP CC 3 w fun x6 w_2 =>
    StoreP CC 3 x6 (.int .i64 0) w_2 fun w_3 =>
    CallP CC 224 [a0, a1] w_3 fun x19 w_4 =>
    ∃ f cap, x19 = .func (.func f) #[] cap ∧ hasB f = true ∧ ∃ Stay N Args, Iter CC f cap.toList w_4 Stay N Args ∧ (∀ k w' vs, Args k w' vs → vs.length = 2) ∧ ∃ (I : Nat → World → Prop) (J : Jmp → World → Prop),
    (∀ w', Vc.Sys w_4.heap.size w_4 w' → I 0 w') ∧ (∀ k w', I k w' → Stay k w') ∧
    (∀ k, k < N → ∀ x20 : Value, ∀ x21 : Value, ∀ w_5, I k w_5 → Args k w_5 [x20, x21] →
      ∀ w_6, Vc.Sys w_4.heap.size w_5 w_6 →
      ∃ x25, binV (.int .u64) .lss x20 x21 = some x25 ∧
      CondP x25 (
        StoreP CC 3 x6 (.int .i64 (-1)) w_6 fun w_9 =>
        ∀ w', Vc.Sys w_4.heap.size w_9 w' → I (k + 1) w') (
        ∃ x29, binV (.int .u64) .gtr x20 x21 = some x29 ∧
        CondP x29 (
          StoreP CC 3 x6 (.int .i64 1) w_6 fun w_10 =>
          ∀ w', Vc.Sys w_4.heap.size w_10 w' → I (k + 1) w') (
          ∀ w', Vc.Sys w_4.heap.size w_6 w' → I (k + 1) w'))) ∧
    (∀ w_7, I N w_7 →
      LoadP CC 3 x6 w_7 fun x30 w_11 =>
      ∀ w_12, Vc.Sys w.heap.size w_11 w_12 →
      R x30 w_12) ∧
    (∀ j w_8, J j w_8 → match j with
      | .ret =>
        ∀ w_13, Vc.Sys w.heap.size w_8 w_13 →
        R (.int .i64 0) w_13
      | .exit i =>
        if i = 0 then (
          LoadP CC 3 x6 w_8 fun x30_1 w_14 =>
          ∀ w_15, Vc.Sys w.heap.size w_14 w_15 →
          R x30_1 w_15) else
        False))
theorem V210_eq (a0 a1 : Value) (w : World) (R : Value → World → Prop) : V210 a0 a1 w R = FnP CC { keep := fun _ => [], lin := fun _ => [] } Tryz.f210 [a0, a1] w R := by kernel_rfl
theorem call210 {a0 a1 : Value} {w : World} {R : Value → World → Prop} (h : V210 a0 a1 w R) : CallP CC 210 [a0, a1] w R :=
  call_of_vc CC.ok _ Tryz.func210 (V210_eq a0 a1 w R ▸ h)
def V211 (a0 a1 : Value) (w : World) (R : Value → World → Prop) : Prop :=
  CallP CC 223 [] w fun x11 w_1 =>
  ∃ x12, extrV x11 0 = some x12 ∧
  ∃ x13, extrV x11 1 = some x13 ∧
  AllocP CC 251 w_1 fun x5 w_2 =>
  StoreP CC 251 x5 x12 w_2 fun w_3 =>
  LoadP CC 251 x5 w_3 fun x14 w_4 =>
  callV CC x14 [(.int .u64 4294967296)] w_4 fun x15 w_5 =>
  CallP CC 224 [a0, a1] w_5 fun x18 w_6 =>
  ∃ f cap, x18 = .func (.func f) #[] cap ∧ hasB f = true ∧ ∃ Stay N Args, Iter CC f cap.toList w_6 Stay N Args ∧ (∀ k w' vs, Args k w' vs → vs.length = 2) ∧ ∃ (I : Nat → World → Prop) (J : Jmp → World → Prop),
  (∀ w', Vc.Sys w_6.heap.size w_6 w' → I 0 w') ∧ (∀ k w', I k w' → Stay k w') ∧
  (∀ k, k < N → ∀ x19 : Value, ∀ x20 : Value, ∀ w_7, I k w_7 → Args k w_7 [x19, x20] →
    ∀ w_8, Vc.Sys w_6.heap.size w_7 w_8 →
    LoadP CC 251 x5 w_8 fun x21 w_11 =>
    ∃ x23, binV (.int .u64) .add x19 (.int .u64 4294967296) = some x23 ∧
    ∃ x24, binV (.int .u64) .sub x23 (.int .u64 1) = some x24 ∧
    ∃ x26, binV (.int .u64) .sub x24 x20 = some x26 ∧
    callV CC x21 [x26] w_11 fun x27 w_12 =>
    ∀ w', Vc.Sys w_6.heap.size w_12 w' → I (k + 1) w') ∧
  (∀ w_9, I N w_9 →
    callV CC x13 [] w_9 fun x29 w_13 =>
    ∃ x32, lenV (tyOf tyTab 26) x29 = some x32 ∧
    ∃ x33, binV (.int .i64) .sub x32 (.int .i64 1) = some x33 ∧
    ∃ x34, sliceV (tyOf tyTab 26) x29 (some (.int .i64 1)) (some x33) = some x34 ∧
    ∀ w_14, Vc.Sys w.heap.size w_13 w_14 →
    R x34 w_14) ∧
  (∀ j w_10, J j w_10 → match j with
    | .ret =>
      ∀ w_15, Vc.Sys w.heap.size w_10 w_15 →
      R (.slice none 0 0) w_15
    | .exit i =>
      if i = 0 then (
        callV CC x13 [] w_10 fun x29_1 w_16 =>
        ∃ x32_1, lenV (tyOf tyTab 26) x29_1 = some x32_1 ∧
        ∃ x33_1, binV (.int .i64) .sub x32_1 (.int .i64 1) = some x33_1 ∧
        ∃ x34_1, sliceV (tyOf tyTab 26) x29_1 (some (.int .i64 1)) (some x33_1) = some x34_1 ∧
        ∀ w_17, Vc.Sys w.heap.size w_16 w_17 →
        R x34_1 w_17) else
      False)
theorem V211_eq (a0 a1 : Value) (w : World) (R : Value → World → Prop) : V211 a0 a1 w R = FnP CC { keep := fun _ => [], lin := fun _ => [] } Tryz.f211 [a0, a1] w R := by kernel_rfl
theorem call211 {a0 a1 : Value} {w : World} {R : Value → World → Prop} (h : V211 a0 a1 w R) : CallP CC 211 [a0, a1] w R :=
  call_of_vc CC.ok _ Tryz.func211 (V211_eq a0 a1 w R ▸ h)
def V170 (a0 a1 : Value) (w : World) (R : Value → World → Prop) : Prop :=
  BoxP CC 28 a0 w fun x2 w_1 =>
  BoxP CC 28 a1 w_1 fun x3 w_2 =>
  AllocP CC 28 w_2 fun x4 w_3 =>
  ∃ A8 A9 A11 A12 : Value → World → Prop,
  (∀ z, Grow w_3 z → (∃ v, fieldAddrV (tyOf tyTab 28) 1 x2 = some v)) ∧
  (∀ z, Grow w_3 z → (LoadP CC 26 ((fieldAddrV (tyOf tyTab 28) 1 x2).getD undef) z fun x y => Grow z y ∧ ∀ w'', Grow y w'' → A8 x w'')) ∧
  (∀ v8 : Value, ∀ z, Grow w_3 z → A8 v8 z → (CallP CC 157 [v8] z fun x y => Grow z y ∧ ∀ w'', Grow y w'' → A9 x w'')) ∧
  (∀ v8 v9 : Value, ∀ z, Grow w_3 z → (∃ v, fieldAddrV (tyOf tyTab 28) 1 x3 = some v)) ∧
  (∀ v8 v9 : Value, ∀ z, Grow w_3 z → (LoadP CC 26 ((fieldAddrV (tyOf tyTab 28) 1 x3).getD undef) z fun x y => Grow z y ∧ ∀ w'', Grow y w'' → A11 x w'')) ∧
  (∀ v8 v9 v11 : Value, ∀ z, Grow w_3 z → A8 v8 z → A9 v9 z → A11 v11 z → (CallP CC 157 [v11] z fun x y => Grow z y ∧ ∀ w'', Grow y w'' → A12 x w'')) ∧
  ∀ v8 v9 v11 v12 : Value, ∀ (h : Nat → Value) (w_4 : World), Grow w_3 w_4 → A8 v8 w_4 → A9 v9 w_4 → A11 v11 w_4 → A12 v12 w_4 → 
  ∃ x14, fieldAddrV (tyOf tyTab 28) 0 x2 = some x14 ∧
  LoadP CC 4 x14 w_4 fun x15 w_5 =>
  ∃ x16, fieldAddrV (tyOf tyTab 28) 0 x3 = some x16 ∧
  LoadP CC 4 x16 w_5 fun x17 w_6 =>
  ∃ x18, binV .bool .eql x15 x17 = some x18 ∧
  CondP x18 (
    ∃ (T : World → World → Prop) (L : List Value → World → Prop), (∀ a b, Grow a b → T a b) ∧ (∀ a b c, T a b → T b c → T a c) ∧ (∀ w', Grow w_6 w' → L [] w') ∧
    ∃ A20 A23 A24 As6 : Value → World → Prop,
    (∀ z, T w_6 z → (∃ v, fieldAddrV (tyOf tyTab 28) 0 x2 = some v)) ∧
    (∀ z, T w_6 z → (LoadP CC 4 ((fieldAddrV (tyOf tyTab 28) 0 x2).getD undef) z fun x y => Grow z y ∧ ∀ w'', T y w'' → A20 x w'')) ∧
    (∀ v20 : Value, ∀ z, T w_6 z → (CallP CC 209 [v9, v12] z fun x y => Grow z y ∧ ∀ w'', T y w'' → A23 x w'')) ∧
    (∀ v20 v23 : Value, ∀ z, T w_6 z → A20 v20 z → A23 v23 z → (CallP CC 155 [v20, v23] z fun x y => Grow z y ∧ ∀ w'', T y w'' → A24 x w'')) ∧
    (∀ v20 v23 v24 : Value, ∀ z, T w_6 z → L [] z → A20 v20 z → A23 v23 z → A24 v24 z → StoreP CC 28 x4 v24 z fun y => T z y ∧ (∀ w'', T y w'' → As6 undef w'') ∧ ∀ w'', Grow y w'' → L [x4] w'') ∧
    ∀ v20 v23 v24 vs6 : Value, ∀ (h_1 : Nat → Value) (w_7 : World), T w_6 w_7 → A20 v20 w_7 → A23 v23 w_7 → A24 v24 w_7 → As6 vs6 w_7 → L [x4] w_7 → 
    ∃ ad r, x4 = .pointer (some ad) ∧ (loadVar 28 ad).run CC.P w_7 = .ok r w_7 ∧
    R r w_7) (
    CallP CC 210 [v9, v12] w_6 fun x28 w_8 =>
    ∃ x29, binV (.int .i64) .geq x28 (.int .i64 0) = some x29 ∧
    CondP x29 (
      ∃ (T_1 : World → World → Prop) (L_1 : List Value → World → Prop), (∀ a b, Grow a b → T_1 a b) ∧ (∀ a b c, T_1 a b → T_1 b c → T_1 a c) ∧ (∀ w', Grow w_8 w' → L_1 [] w') ∧
      ∃ A31 A34 A35 As6_1 : Value → World → Prop,
      (∀ z, T_1 w_8 z → (∃ v, fieldAddrV (tyOf tyTab 28) 0 x2 = some v)) ∧
      (∀ z, T_1 w_8 z → (LoadP CC 4 ((fieldAddrV (tyOf tyTab 28) 0 x2).getD undef) z fun x y => Grow z y ∧ ∀ w'', T_1 y w'' → A31 x w'')) ∧
      (∀ v31 : Value, ∀ z, T_1 w_8 z → (CallP CC 211 [v9, v12] z fun x y => Grow z y ∧ ∀ w'', T_1 y w'' → A34 x w'')) ∧
      (∀ v31 v34 : Value, ∀ z, T_1 w_8 z → A31 v31 z → A34 v34 z → (CallP CC 155 [v31, v34] z fun x y => Grow z y ∧ ∀ w'', T_1 y w'' → A35 x w'')) ∧
      (∀ v31 v34 v35 : Value, ∀ z, T_1 w_8 z → L_1 [] z → A31 v31 z → A34 v34 z → A35 v35 z → StoreP CC 28 x4 v35 z fun y => T_1 z y ∧ (∀ w'', T_1 y w'' → As6_1 undef w'') ∧ ∀ w'', Grow y w'' → L_1 [x4] w'') ∧
      ∀ v31 v34 v35 vs6_1 : Value, ∀ (h_2 : Nat → Value) (w_9 : World), T_1 w_8 w_9 → A31 v31 w_9 → A34 v34 w_9 → A35 v35 w_9 → As6_1 vs6_1 w_9 → L_1 [x4] w_9 → 
      ∃ ad_1 r_1, x4 = .pointer (some ad_1) ∧ (loadVar 28 ad_1).run CC.P w_9 = .ok r_1 w_9 ∧
      R r_1 w_9) (
      ∃ (T_2 : World → World → Prop) (L_2 : List Value → World → Prop), (∀ a b, Grow a b → T_2 a b) ∧ (∀ a b c, T_2 a b → T_2 b c → T_2 a c) ∧ (∀ w', Grow w_8 w' → L_2 [] w') ∧
      ∃ A37 A40 A41 As6_2 : Value → World → Prop,
      (∀ z, T_2 w_8 z → (∃ v, fieldAddrV (tyOf tyTab 28) 0 x3 = some v)) ∧
      (∀ z, T_2 w_8 z → (LoadP CC 4 ((fieldAddrV (tyOf tyTab 28) 0 x3).getD undef) z fun x y => Grow z y ∧ ∀ w'', T_2 y w'' → A37 x w'')) ∧
      (∀ v37 : Value, ∀ z, T_2 w_8 z → (CallP CC 211 [v12, v9] z fun x y => Grow z y ∧ ∀ w'', T_2 y w'' → A40 x w'')) ∧
      (∀ v37 v40 : Value, ∀ z, T_2 w_8 z → A37 v37 z → A40 v40 z → (CallP CC 155 [v37, v40] z fun x y => Grow z y ∧ ∀ w'', T_2 y w'' → A41 x w'')) ∧
      (∀ v37 v40 v41 : Value, ∀ z, T_2 w_8 z → L_2 [] z → A37 v37 z → A40 v40 z → A41 v41 z → StoreP CC 28 x4 v41 z fun y => T_2 z y ∧ (∀ w'', T_2 y w'' → As6_2 undef w'') ∧ ∀ w'', Grow y w'' → L_2 [x4] w'') ∧
      ∀ v37 v40 v41 vs6_2 : Value, ∀ (h_3 : Nat → Value) (w_10 : World), T_2 w_8 w_10 → A37 v37 w_10 → A40 v40 w_10 → A41 v41 w_10 → As6_2 vs6_2 w_10 → L_2 [x4] w_10 → 
      ∃ ad_2 r_2, x4 = .pointer (some ad_2) ∧ (loadVar 28 ad_2).run CC.P w_10 = .ok r_2 w_10 ∧
      R r_2 w_10))
theorem V170_eq (a0 a1 : Value) (w : World) (R : Value → World → Prop) : V170 a0 a1 w R = FnP CC { keep := fun _ => [], lin := fun _ => [] } Tryz.f170 [a0, a1] w R := by kernel_rfl
theorem call170 {a0 a1 : Value} {w : World} {R : Value → World → Prop} (h : V170 a0 a1 w R) : CallP CC 170 [a0, a1] w R :=
  call_of_vc CC.ok _ Tryz.func170 (V170_eq a0 a1 w R ▸ h)
def V154 (a0 a1 : Value) (w : World) (R : Value → World → Prop) : Prop :=
  BoxP CC 28 a0 w fun x2 w_1 =>
  BoxP CC 28 a1 w_1 fun x3 w_2 =>
  AllocP CC 28 w_2 fun x4 w_3 =>
  LoadP CC 28 x2 w_3 fun x5 w_4 =>
  ∃ x6, fieldAddrV (tyOf tyTab 28) 0 x3 = some x6 ∧
  LoadP CC 4 x6 w_4 fun x7 w_5 =>
  ∃ x8, unV .not x7 = some x8 ∧
  ∃ x9, fieldAddrV (tyOf tyTab 28) 1 x3 = some x9 ∧
  LoadP CC 26 x9 w_5 fun x10 w_6 =>
  ∃ x11, buildV (tyOf tyTab 28) [(0, x8), (1, x10)] = some x11 ∧
  CallP CC 170 [x5, x11] w_6 fun x12 w_7 =>
  StoreP CC 28 x4 x12 w_7 fun w_8 =>
  ∃ ad r, x4 = .pointer (some ad) ∧ (loadVar 28 ad).run CC.P w_8 = .ok r w_8 ∧
  R r w_8
theorem V154_eq (a0 a1 : Value) (w : World) (R : Value → World → Prop) : V154 a0 a1 w R = FnP CC { keep := fun _ => [], lin := fun _ => [] } Tryz.f154 [a0, a1] w R := by kernel_rfl
theorem call154 {a0 a1 : Value} {w : World} {R : Value → World → Prop} (h : V154 a0 a1 w R) : CallP CC 154 [a0, a1] w R :=
  call_of_vc CC.ok _ Tryz.func154 (V154_eq a0 a1 w R ▸ h)
def V90 (a0 a1 : Value) (w : World) (R : Value → World → Prop) : Prop :=
  BoxP CC 28 a0 w fun x2 w_1 =>
  BoxP CC 28 a1 w_1 fun x3 w_2 =>
  LoadP CC 28 x2 w_2 fun x5 w_3 =>
  LoadP CC 28 x3 w_3 fun x6 w_4 =>
  CallP CC 154 [x5, x6] w_4 fun x7 w_5 =>
  CallP CC 103 [x7] w_5 fun x8 w_6 =>
  R x8 w_6
theorem V90_eq (a0 a1 : Value) (w : World) (R : Value → World → Prop) : V90 a0 a1 w R = FnP CC { keep := fun _ => [], lin := fun _ => [] } Tryz.f90 [a0, a1] w R := by kernel_rfl
theorem call90 {a0 a1 : Value} {w : World} {R : Value → World → Prop} (h : V90 a0 a1 w R) : CallP CC 90 [a0, a1] w R :=
  call_of_vc CC.ok _ Tryz.func90 (V90_eq a0 a1 w R ▸ h)
def V156 (a0 a1 : Value) (w : World) (R : Value → World → Prop) : Prop :=
  ∃ x12, lenV (tyOf tyTab 26) a0 = some x12 ∧
  ∃ x14, lenV (tyOf tyTab 26) a1 = some x14 ∧
  ∃ x15, binV (.int .i64) .add x12 x14 = some x15 ∧
  MakeP CC 26 x15 x15 w fun x16 w_1 =>
  ∃ x18, lenV (tyOf tyTab 26) a0 = some x18 ∧
  ∃ (I : Value → World → Prop) (μ : Value → World → Nat), I (.int .i64 0) w_1 ∧
  ∀ y19 : Value, ∀ (h : Nat → Value) (w_2 : World), I y19 w_2 →
    ∃ x20, binV (.int .i64) .lss y19 x18 = some x20 ∧
    CondP x20 (
      ∃ x22, indexAddrV (tyOf tyTab 26) a0 y19 = some x22 ∧
      LoadP CC 199 x22 w_2 fun x23 w_3 =>
      ∃ x25, lenV (tyOf tyTab 26) a1 = some x25 ∧
      ∃ (I_1 : Value → Value → World → Prop) (μ_1 : Value → Value → World → Nat), I_1 (.int .u64 0) (.int .i64 0) w_3 ∧
      ∀ y8 : Value, ∀ y26 : Value, ∀ (h_1 : Nat → Value) (w_4 : World), I_1 y8 y26 w_4 →
        ∃ x27, binV (.int .i64) .lss y26 x25 = some x27 ∧
        CondP x27 (
          ∃ x29, indexAddrV (tyOf tyTab 26) a1 y26 = some x29 ∧
          LoadP CC 199 x29 w_4 fun x30 w_5 =>
          ∃ x33, convV (.int .u64) x23 = some x33 ∧
          ∃ x35, convV (.int .u64) x30 = some x35 ∧
          ∃ x36, binV (.int .u64) .mul x33 x35 = some x36 ∧
          ∃ x40, binV (.int .i64) .add y19 y26 = some x40 ∧
          ∃ x41, indexAddrV (tyOf tyTab 26) x16 x40 = some x41 ∧
          LoadP CC 199 x41 w_5 fun x42 w_6 =>
          ∃ x43, convV (.int .u64) x42 = some x43 ∧
          ∃ x44, binV (.int .u64) .add x36 x43 = some x44 ∧
          ∃ x45, binV (.int .u64) .add y8 x44 = some x45 ∧
          ∃ x49, binV (.int .i64) .add y19 y26 = some x49 ∧
          ∃ x51, convV (.int .u32) x45 = some x51 ∧
          ∃ x53, binV (.int .u64) .shr x45 (.int .u64 32) = some x53 ∧
          ∃ x54, indexAddrV (tyOf tyTab 26) x16 x49 = some x54 ∧
          StoreP CC 199 x54 x51 w_6 fun w_7 =>
          ∃ x55, binV (.int .i64) .add y26 (.int .i64 1) = some x55 ∧
          I_1 x53 x55 w_7 ∧ μ_1 x53 x55 w_7 < μ_1 y8 y26 w_4) (
          ∃ x59, lenV (tyOf tyTab 26) a1 = some x59 ∧
          ∃ x60, binV (.int .i64) .add y19 x59 = some x60 ∧
          ∃ x62, convV (.int .u32) y8 = some x62 ∧
          ∃ x63, indexAddrV (tyOf tyTab 26) x16 x60 = some x63 ∧
          StoreP CC 199 x63 x62 w_4 fun w_8 =>
          ∃ x64, binV (.int .i64) .add y19 (.int .i64 1) = some x64 ∧
          I x64 w_8 ∧ μ x64 w_8 < μ y19 w_2)) (
      R x16 w_2)
theorem V156_eq (a0 a1 : Value) (w : World) (R : Value → World → Prop) : V156 a0 a1 w R = FnP CC { keep := fun | 3 => [19] | 7 => [8, 26] | _ => [], lin := fun _ => [] } Tryz.f156 [a0, a1] w R := by kernel_rfl
theorem call156 {a0 a1 : Value} {w : World} {R : Value → World → Prop} (h : V156 a0 a1 w R) : CallP CC 156 [a0, a1] w R :=
  call_of_vc CC.ok _ Tryz.func156 (V156_eq a0 a1 w R ▸ h)
def V231 (a0 a1 : Value) (w : World) (R : Value → World → Prop) : Prop :=
  ∃ x9, lenV (tyOf tyTab 26) a0 = some x9 ∧
  MakeP CC 26 x9 x9 w fun x10 w_1 =>
  ∃ x12, lenV (tyOf tyTab 26) a0 = some x12 ∧
  ∃ (I : Value → Value → World → Prop) (μ : Value → Value → World → Nat), I (.int .u64 0) (.int .i64 0) w_1 ∧
  ∀ y5 : Value, ∀ y13 : Value, ∀ (h : Nat → Value) (w_2 : World), I y5 y13 w_2 →
    ∃ x14, binV (.int .i64) .lss y13 x12 = some x14 ∧
    CondP x14 (
      ∃ x17, lenV (tyOf tyTab 26) a0 = some x17 ∧
      ∃ x18, binV (.int .i64) .sub x17 (.int .i64 1) = some x18 ∧
      ∃ x20, binV (.int .i64) .sub x18 y13 = some x20 ∧
      ∃ x22, binV (.int .u64) .shl y5 (.int .u64 32) = some x22 ∧
      ∃ x25, indexAddrV (tyOf tyTab 26) a0 x20 = some x25 ∧
      LoadP CC 199 x25 w_2 fun x26 w_3 =>
      ∃ x27, convV (.int .u64) x26 = some x27 ∧
      ∃ x28, binV (.int .u64) .add x22 x27 = some x28 ∧
      ∃ (T : World → World → Prop) (L : List Value → World → Prop), (∀ a b, Grow a b → T a b) ∧ (∀ a b c, T a b → T b c → T a c) ∧ (∀ w', Grow w_3 w' → L [] w') ∧
      ∃ As10 : Value → World → Prop,
      (∀ z, T w_3 z → (∃ v, binV (.int .u64) .quo x28 a1 = some v)) ∧
      (∀ z, T w_3 z → (∃ v, convV (.int .u32) ((binV (.int .u64) .quo x28 a1).getD undef) = some v)) ∧
      (∀ z, T w_3 z → (∃ v, binV (.int .u64) .rem x28 a1 = some v)) ∧
      (∀ z, T w_3 z → (∃ v, indexAddrV (tyOf tyTab 26) x10 x20 = some v)) ∧
      (∀ z, T w_3 z → L [] z → StoreP CC 199 ((indexAddrV (tyOf tyTab 26) x10 x20).getD undef) ((convV (.int .u32) ((binV (.int .u64) .quo x28 a1).getD undef)).getD undef) z fun y => T z y ∧ (∀ w'', T y w'' → As10 undef w'') ∧ ∀ w'', Grow y w'' → L [((indexAddrV (tyOf tyTab 26) x10 x20).getD undef)] w'') ∧
      ∀ vs10 : Value, ∀ (h_1 : Nat → Value) (w_4 : World), T w_3 w_4 → As10 vs10 w_4 → L [((indexAddrV (tyOf tyTab 26) x10 x20).getD undef)] w_4 → 
      ∃ x39, binV (.int .i64) .add y13 (.int .i64 1) = some x39 ∧
      I ((binV (.int .u64) .rem x28 a1).getD undef) x39 w_4 ∧ μ ((binV (.int .u64) .rem x28 a1).getD undef) x39 w_4 < μ y5 y13 w_2) (
      CallP CC 157 [x10] w_2 fun x41 w_5 =>
      R (.tuple #[x41, y5]) w_5)
theorem V231_eq (a0 a1 : Value) (w : World) (R : Value → World → Prop) : V231 a0 a1 w R = FnP CC { keep := fun | 3 => [5, 13] | _ => [], lin := fun _ => [] } Tryz.f231 [a0, a1] w R := by kernel_rfl
theorem call231 {a0 a1 : Value} {w : World} {R : Value → World → Prop} (h : V231 a0 a1 w R) : CallP CC 231 [a0, a1] w R :=
  call_of_vc CC.ok _ Tryz.func231 (V231_eq a0 a1 w R ▸ h)
def V221 (a0 a1 : Value) (w : World) (R : Value → World → Prop) : Prop :=
  ∃ x14, lenV (tyOf tyTab 26) a1 = some x14 ∧
  ∃ x15, binV (.int .i64) .eql x14 (.int .i64 1) = some x15 ∧
  CondP x15 (
    ∃ x19, indexAddrV (tyOf tyTab 26) a1 (.int .i64 0) = some x19 ∧
    LoadP CC 199 x19 w fun x20 w_1 =>
    ∃ x21, convV (.int .u64) x20 = some x21 ∧
    CallP CC 231 [a0, x21] w_1 fun x22 w_2 =>
    ∃ x23, extrV x22 0 = some x23 ∧
    ∃ x24, extrV x22 1 = some x24 ∧
    ∃ x27, convV (.int .u32) x24 = some x27 ∧
    LitP CC 26 1 [(0, x27)] w_2 fun x28 w_3 =>
    CallP CC 157 [x28] w_3 fun x29 w_4 =>
    R (.tuple #[x23, x29]) w_4) (
    ∃ x31, lenV (tyOf tyTab 26) a0 = some x31 ∧
    MakeP CC 26 x31 x31 w fun x32 w_5 =>
    ∃ x34, lenV (tyOf tyTab 26) a0 = some x34 ∧
    ∃ (I : Value → Value → World → Prop) (μ : Value → Value → World → Nat), I (.slice none 0 0) (.int .i64 0) w_5 ∧
    ∀ y5 : Value, ∀ y35 : Value, ∀ (h : Nat → Value) (w_6 : World), I y5 y35 w_6 →
      ∃ x36, binV (.int .i64) .lss y35 x34 = some x36 ∧
      CondP x36 (
        ∃ x39, lenV (tyOf tyTab 26) a0 = some x39 ∧
        ∃ x40, binV (.int .i64) .sub x39 (.int .i64 1) = some x40 ∧
        ∃ x42, binV (.int .i64) .sub x40 y35 = some x42 ∧
        ∃ x45, indexAddrV (tyOf tyTab 26) a0 x42 = some x45 ∧
        LoadP CC 199 x45 w_6 fun x46 w_7 =>
        LitP CC 26 1 [(0, x46)] w_7 fun x47 w_8 =>
        AppendP CC #[26, 26] 26 [x47, y5] w_8 fun x49 w_9 =>
        CallP CC 157 [x49] w_9 fun x50 w_10 =>
        ∃ x52, lenV (tyOf tyTab 26) x50 = some x52 ∧
        ∃ x54, lenV (tyOf tyTab 26) a1 = some x54 ∧
        ∃ x55, binV (.int .i64) .lss x52 x54 = some x55 ∧
        CondP x55 (
          ∃ (I_1 : Value → Value → World → Prop) (μ_1 : Value → Value → World → Nat), I_1 (.int .u64 0) (.int .u64 1) w_10 ∧
          ∀ y10 : Value, ∀ y11 : Value, ∀ (h_1 : Nat → Value) (w_11 : World), I_1 y10 y11 w_11 →
            ∃ x58, binV (.int .u64) .sub y11 y10 = some x58 ∧
            ∃ x59, binV (.int .u64) .gtr x58 (.int .u64 1) = some x59 ∧
            CondP x59 (
              ∃ x62, binV (.int .u64) .add y10 y11 = some x62 ∧
              ∃ x63, binV (.int .u64) .quo x62 (.int .u64 2) = some x63 ∧
              ∃ x66, convV (.int .u32) x63 = some x66 ∧
              LitP CC 26 1 [(0, x66)] w_11 fun x67 w_12 =>
              CallP CC 156 [a1, x67] w_12 fun x68 w_13 =>
              CallP CC 157 [x68] w_13 fun x69 w_14 =>
              CallP CC 210 [x69, x50] w_14 fun x71 w_15 =>
              ∃ x72, binV (.int .i64) .leq x71 (.int .i64 0) = some x72 ∧
              CondP x72 (
                I_1 x63 y11 w_15 ∧ μ_1 x63 y11 w_15 < μ_1 y10 y11 w_11) (
                I_1 y10 x63 w_15 ∧ μ_1 y10 x63 w_15 < μ_1 y10 y11 w_11)) (
              ∃ x78, convV (.int .u32) y10 = some x78 ∧
              ∃ x79, indexAddrV (tyOf tyTab 26) x32 x42 = some x79 ∧
              StoreP CC 199 x79 x78 w_11 fun w_16 =>
              ∃ x83, convV (.int .u32) y10 = some x83 ∧
              LitP CC 26 1 [(0, x83)] w_16 fun x84 w_17 =>
              CallP CC 156 [a1, x84] w_17 fun x85 w_18 =>
              CallP CC 157 [x85] w_18 fun x86 w_19 =>
              CallP CC 211 [x50, x86] w_19 fun x87 w_20 =>
              CallP CC 157 [x87] w_20 fun x88 w_21 =>
              ∃ x89, binV (.int .i64) .add y35 (.int .i64 1) = some x89 ∧
              I x88 x89 w_21 ∧ μ x88 x89 w_21 < μ y5 y35 w_6)) (
          ∃ (I_2 : Value → Value → World → Prop) (μ_2 : Value → Value → World → Nat), I_2 (.int .u64 0) (.int .u64 4294967296) w_10 ∧
          ∀ y10_1 : Value, ∀ y11_1 : Value, ∀ (h_2 : Nat → Value) (w_22 : World), I_2 y10_1 y11_1 w_22 →
            ∃ x58_1, binV (.int .u64) .sub y11_1 y10_1 = some x58_1 ∧
            ∃ x59_1, binV (.int .u64) .gtr x58_1 (.int .u64 1) = some x59_1 ∧
            CondP x59_1 (
              ∃ x62_1, binV (.int .u64) .add y10_1 y11_1 = some x62_1 ∧
              ∃ x63_1, binV (.int .u64) .quo x62_1 (.int .u64 2) = some x63_1 ∧
              ∃ x66_1, convV (.int .u32) x63_1 = some x66_1 ∧
              LitP CC 26 1 [(0, x66_1)] w_22 fun x67_1 w_23 =>
              CallP CC 156 [a1, x67_1] w_23 fun x68_1 w_24 =>
              CallP CC 157 [x68_1] w_24 fun x69_1 w_25 =>
              CallP CC 210 [x69_1, x50] w_25 fun x71_1 w_26 =>
              ∃ x72_1, binV (.int .i64) .leq x71_1 (.int .i64 0) = some x72_1 ∧
              CondP x72_1 (
                I_2 x63_1 y11_1 w_26 ∧ μ_2 x63_1 y11_1 w_26 < μ_2 y10_1 y11_1 w_22) (
                I_2 y10_1 x63_1 w_26 ∧ μ_2 y10_1 x63_1 w_26 < μ_2 y10_1 y11_1 w_22)) (
              ∃ x78_1, convV (.int .u32) y10_1 = some x78_1 ∧
              ∃ x79_1, indexAddrV (tyOf tyTab 26) x32 x42 = some x79_1 ∧
              StoreP CC 199 x79_1 x78_1 w_22 fun w_27 =>
              ∃ x83_1, convV (.int .u32) y10_1 = some x83_1 ∧
              LitP CC 26 1 [(0, x83_1)] w_27 fun x84_1 w_28 =>
              CallP CC 156 [a1, x84_1] w_28 fun x85_1 w_29 =>
              CallP CC 157 [x85_1] w_29 fun x86_1 w_30 =>
              CallP CC 211 [x50, x86_1] w_30 fun x87_1 w_31 =>
              CallP CC 157 [x87_1] w_31 fun x88_1 w_32 =>
              ∃ x89_1, binV (.int .i64) .add y35 (.int .i64 1) = some x89_1 ∧
              I x88_1 x89_1 w_32 ∧ μ x88_1 x89_1 w_32 < μ y5 y35 w_6))) (
        CallP CC 157 [x32] w_6 fun x91 w_33 =>
        R (.tuple #[x91, y5]) w_33))
theorem V221_eq (a0 a1 : Value) (w : World) (R : Value → World → Prop) : V221 a0 a1 w R = FnP CC { keep := fun | 6 => [5, 35] | 13 => [10, 11] | _ => [], lin := fun _ => [] } Tryz.f221 [a0, a1] w R := by kernel_rfl
theorem call221 {a0 a1 : Value} {w : World} {R : Value → World → Prop} (h : V221 a0 a1 w R) : CallP CC 221 [a0, a1] w R :=
  call_of_vc CC.ok _ Tryz.func221 (V221_eq a0 a1 w R ▸ h)
def V197 (a0 a1 : Value) (w : World) (R : Value → World → Prop) : Prop :=
  BoxP CC 28 a0 w fun x2 w_1 =>
  BoxP CC 28 a1 w_1 fun x3 w_2 =>
  AllocP CC 28 w_2 fun x4 w_3 =>
  ∃ A10 A11 A13 A14 : Value → World → Prop,
  (∀ z, Grow w_3 z → (∃ v, fieldAddrV (tyOf tyTab 28) 1 x2 = some v)) ∧
  (∀ z, Grow w_3 z → (LoadP CC 26 ((fieldAddrV (tyOf tyTab 28) 1 x2).getD undef) z fun x y => Grow z y ∧ ∀ w'', Grow y w'' → A10 x w'')) ∧
  (∀ v10 : Value, ∀ z, Grow w_3 z → A10 v10 z → (CallP CC 157 [v10] z fun x y => Grow z y ∧ ∀ w'', Grow y w'' → A11 x w'')) ∧
  (∀ v10 v11 : Value, ∀ z, Grow w_3 z → (∃ v, fieldAddrV (tyOf tyTab 28) 1 x3 = some v)) ∧
  (∀ v10 v11 : Value, ∀ z, Grow w_3 z → (LoadP CC 26 ((fieldAddrV (tyOf tyTab 28) 1 x3).getD undef) z fun x y => Grow z y ∧ ∀ w'', Grow y w'' → A13 x w'')) ∧
  (∀ v10 v11 v13 : Value, ∀ z, Grow w_3 z → A10 v10 z → A11 v11 z → A13 v13 z → (CallP CC 157 [v13] z fun x y => Grow z y ∧ ∀ w'', Grow y w'' → A14 x w'')) ∧
  ∀ v10 v11 v13 v14 : Value, ∀ (h : Nat → Value) (w_4 : World), Grow w_3 w_4 → A10 v10 w_4 → A11 v11 w_4 → A13 v13 w_4 → A14 v14 w_4 → 
  ∃ (I : Value → Value → World → Prop) (μ : Value → Value → World → Nat), I v11 v14 w_4 ∧
  ∀ y5 : Value, ∀ y6 : Value, ∀ (h_1 : Nat → Value) (w_5 : World), I y5 y6 w_5 →
    ∃ x16, lenV (tyOf tyTab 26) y6 = some x16 ∧
    ∃ x17, binV (.int .i64) .gtr x16 (.int .i64 0) = some x17 ∧
    CondP x17 (
      CallP CC 221 [y5, y6] w_5 fun x21 w_6 =>
      ∃ x22, extrV x21 0 = some x22 ∧
      ∃ x23, extrV x21 1 = some x23 ∧
      I y6 x23 w_6 ∧ μ y6 x23 w_6 < μ y5 y6 w_5) (
      CallP CC 199 [y5] w_5 fun x27 w_7 =>
      CallP CC 155 [(.bool false), x27] w_7 fun x28 w_8 =>
      StoreP CC 28 x4 x28 w_8 fun w_9 =>
      ∃ ad r, x4 = .pointer (some ad) ∧ (loadVar 28 ad).run CC.P w_9 = .ok r w_9 ∧
      R r w_9)
theorem V197_eq (a0 a1 : Value) (w : World) (R : Value → World → Prop) : V197 a0 a1 w R = FnP CC { keep := fun | 2 => [5, 6] | _ => [], lin := fun _ => [] } Tryz.f197 [a0, a1] w R := by kernel_rfl
theorem call197 {a0 a1 : Value} {w : World} {R : Value → World → Prop} (h : V197 a0 a1 w R) : CallP CC 197 [a0, a1] w R :=
  call_of_vc CC.ok _ Tryz.func197 (V197_eq a0 a1 w R ▸ h)
def V198 (a0 a1 : Value) (w : World) (R : Value → World → Prop) : Prop :=
  BoxP CC 28 a0 w fun x2 w_1 =>
  BoxP CC 28 a1 w_1 fun x3 w_2 =>
  AllocP CC 28 w_2 fun x4 w_3 =>
  AllocP CC 28 w_3 fun x5 w_4 =>
  ∃ A12 A13 A15 A16 : Value → World → Prop,
  (∀ z, Grow w_4 z → (∃ v, fieldAddrV (tyOf tyTab 28) 1 x2 = some v)) ∧
  (∀ z, Grow w_4 z → (LoadP CC 26 ((fieldAddrV (tyOf tyTab 28) 1 x2).getD undef) z fun x y => Grow z y ∧ ∀ w'', Grow y w'' → A12 x w'')) ∧
  (∀ v12 : Value, ∀ z, Grow w_4 z → A12 v12 z → (CallP CC 157 [v12] z fun x y => Grow z y ∧ ∀ w'', Grow y w'' → A13 x w'')) ∧
  (∀ v12 v13 : Value, ∀ z, Grow w_4 z → (∃ v, fieldAddrV (tyOf tyTab 28) 1 x3 = some v)) ∧
  (∀ v12 v13 : Value, ∀ z, Grow w_4 z → (LoadP CC 26 ((fieldAddrV (tyOf tyTab 28) 1 x3).getD undef) z fun x y => Grow z y ∧ ∀ w'', Grow y w'' → A15 x w'')) ∧
  (∀ v12 v13 v15 : Value, ∀ z, Grow w_4 z → A12 v12 z → A13 v13 z → A15 v15 z → (CallP CC 157 [v15] z fun x y => Grow z y ∧ ∀ w'', Grow y w'' → A16 x w'')) ∧
  ∀ v12 v13 v15 v16 : Value, ∀ (h : Nat → Value) (w_5 : World), Grow w_4 w_5 → A12 v12 w_5 → A13 v13 w_5 → A15 v15 w_5 → A16 v16 w_5 → 
  ∃ x18, lenV (tyOf tyTab 26) v16 = some x18 ∧
  ∃ x19, binV (.int .i64) .eql x18 (.int .i64 0) = some x19 ∧
  CondP x19 (
    ∃ (T : World → World → Prop) (L : List Value → World → Prop), (∀ a b, Grow a b → T a b) ∧ (∀ a b c, T a b → T b c → T a c) ∧ (∀ w', Grow w_5 w' → L [] w') ∧
    ∃ A20 A21 As2 As3 : Value → World → Prop,
    (∀ z, T w_5 z → (LoadP CC 28 x4 z fun x y => Grow z y ∧ ∀ w'', T y w'' → A20 x w'')) ∧
    (∀ v20 : Value, ∀ z, T w_5 z → (LoadP CC 28 x5 z fun x y => Grow z y ∧ ∀ w'', T y w'' → A21 x w'')) ∧
    (∀ v20 v21 : Value, ∀ z, T w_5 z → L [] z → A20 v20 z → StoreP CC 28 x4 v20 z fun y => T z y ∧ (∀ w'', T y w'' → As2 undef w'') ∧ ∀ w'', Grow y w'' → L [x4] w'') ∧
    (∀ v20 v21 vs2 : Value, ∀ z, T w_5 z → L [x4] z → A20 v20 z → A21 v21 z → As2 vs2 z → StoreP CC 28 x5 v21 z fun y => T z y ∧ (∀ w'', T y w'' → As3 undef w'') ∧ ∀ w'', Grow y w'' → L [x4, x5] w'') ∧
    ∀ v20 v21 vs2 vs3 : Value, ∀ (h_1 : Nat → Value) (w_6 : World), T w_5 w_6 → A20 v20 w_6 → A21 v21 w_6 → As2 vs2 w_6 → As3 vs3 w_6 → L [x4, x5] w_6 → 
    ∃ ad r, x4 = .pointer (some ad) ∧ (loadVar 28 ad).run CC.P w_6 = .ok r w_6 ∧
    ∃ ad_1 r_1, x5 = .pointer (some ad_1) ∧ (loadVar 28 ad_1).run CC.P w_6 = .ok r_1 w_6 ∧
    R (.tuple #[r, r_1, (.int .i64 7)]) w_6) (
    CallP CC 221 [v13, v16] w_5 fun x25 w_7 =>
    ∃ x26, extrV x25 0 = some x26 ∧
    ∃ x27, extrV x25 1 = some x27 ∧
    ∃ A29 : Value → World → Prop,
    (∀ z, Grow w_7 z → (∃ v, fieldAddrV (tyOf tyTab 28) 0 x2 = some v)) ∧
    (∀ z, Grow w_7 z → (LoadP CC 4 ((fieldAddrV (tyOf tyTab 28) 0 x2).getD undef) z fun x y => Grow z y ∧ ∀ w'', Grow y w'' → A29 x w'')) ∧
    (∀ v29 : Value, ∀ z, Grow w_7 z → A29 v29 z → (v29 = .bool true → (∃ v, lenV (tyOf tyTab 26) x27 = some v))) ∧
    (∀ v29 : Value, ∀ z, Grow w_7 z → A29 v29 z → (v29 = .bool true → (∃ v, binV (.int .i64) .gtr ((lenV (tyOf tyTab 26) x27).getD undef) (.int .i64 0) = some v))) ∧
    (∀ v29 : Value, ∀ z, Grow w_7 z → A29 v29 z → (∃ v, pickV v29 ((binV (.int .i64) .gtr ((lenV (tyOf tyTab 26) x27).getD undef) (.int .i64 0)).getD undef) (.bool false) = some v)) ∧
    ∀ v29 : Value, ∀ (h_2 : Nat → Value) (w_8 : World), Grow w_7 w_8 → A29 v29 w_8 → 
    CondP ((pickV v29 ((binV (.int .i64) .gtr ((lenV (tyOf tyTab 26) x27).getD undef) (.int .i64 0)).getD undef) (.bool false)).getD undef) (
      LitP CC 26 1 [(0, (.int .u32 1))] w_8 fun x36 w_9 =>
      CallP CC 209 [x26, x36] w_9 fun x37 w_10 =>
      CallP CC 211 [v16, x27] w_10 fun x40 w_11 =>
      ∃ x41, fieldAddrV (tyOf tyTab 28) 0 x2 = some x41 ∧
      LoadP CC 4 x41 w_11 fun x42 w_12 =>
      ∃ x43, fieldAddrV (tyOf tyTab 28) 0 x3 = some x43 ∧
      LoadP CC 4 x43 w_12 fun x44 w_13 =>
      ∃ x45, binV .bool .neq x42 x44 = some x45 ∧
      CallP CC 155 [x45, x37] w_13 fun x47 w_14 =>
      CallP CC 155 [(.bool false), x40] w_14 fun x49 w_15 =>
      StoreP CC 28 x4 x47 w_15 fun w_16 =>
      StoreP CC 28 x5 x49 w_16 fun w_17 =>
      ∃ ad_2 r_2, x4 = .pointer (some ad_2) ∧ (loadVar 28 ad_2).run CC.P w_17 = .ok r_2 w_17 ∧
      ∃ ad_3 r_3, x5 = .pointer (some ad_3) ∧ (loadVar 28 ad_3).run CC.P w_17 = .ok r_3 w_17 ∧
      R (.tuple #[r_2, r_3, (.int .i64 0)]) w_17) (
      ∃ x41_1, fieldAddrV (tyOf tyTab 28) 0 x2 = some x41_1 ∧
      LoadP CC 4 x41_1 w_8 fun x42_1 w_18 =>
      ∃ x43_1, fieldAddrV (tyOf tyTab 28) 0 x3 = some x43_1 ∧
      LoadP CC 4 x43_1 w_18 fun x44_1 w_19 =>
      ∃ x45_1, binV .bool .neq x42_1 x44_1 = some x45_1 ∧
      CallP CC 155 [x45_1, x26] w_19 fun x47_1 w_20 =>
      CallP CC 155 [(.bool false), x27] w_20 fun x49_1 w_21 =>
      StoreP CC 28 x4 x47_1 w_21 fun w_22 =>
      StoreP CC 28 x5 x49_1 w_22 fun w_23 =>
      ∃ ad_4 r_4, x4 = .pointer (some ad_4) ∧ (loadVar 28 ad_4).run CC.P w_23 = .ok r_4 w_23 ∧
      ∃ ad_5 r_5, x5 = .pointer (some ad_5) ∧ (loadVar 28 ad_5).run CC.P w_23 = .ok r_5 w_23 ∧
      R (.tuple #[r_4, r_5, (.int .i64 0)]) w_23))
theorem V198_eq (a0 a1 : Value) (w : World) (R : Value → World → Prop) : V198 a0 a1 w R = FnP CC { keep := fun _ => [], lin := fun _ => [] } Tryz.f198 [a0, a1] w R := by kernel_rfl
theorem call198 {a0 a1 : Value} {w : World} {R : Value → World → Prop} (h : V198 a0 a1 w R) : CallP CC 198 [a0, a1] w R :=
  call_of_vc CC.ok _ Tryz.func198 (V198_eq a0 a1 w R ▸ h)
def V91 (a0 a1 : Value) (w : World) (R : Value → World → Prop) : Prop :=
  BoxP CC 28 a0 w fun x2 w_1 =>
  BoxP CC 28 a1 w_1 fun x3 w_2 =>
  AllocP CC 28 w_2 fun x4 w_3 =>
  ∃ (T : World → World → Prop) (L : List Value → World → Prop), (∀ a b, Grow a b → T a b) ∧ (∀ a b c, T a b → T b c → T a c) ∧ (∀ w', Grow w_3 w' → L [] w') ∧
  ∃ A6 A8 A11 A12 A14 A15 A16 A17 As13 : Value → World → Prop,
  (∀ z, T w_3 z → (∃ v, fieldAddrV (tyOf tyTab 28) 0 x2 = some v)) ∧
  (∀ z, T w_3 z → (LoadP CC 4 ((fieldAddrV (tyOf tyTab 28) 0 x2).getD undef) z fun x y => Grow z y ∧ ∀ w'', T y w'' → A6 x w'')) ∧
  (∀ v6 : Value, ∀ z, T w_3 z → (∃ v, fieldAddrV (tyOf tyTab 28) 0 x3 = some v)) ∧
  (∀ v6 : Value, ∀ z, T w_3 z → (LoadP CC 4 ((fieldAddrV (tyOf tyTab 28) 0 x3).getD undef) z fun x y => Grow z y ∧ ∀ w'', T y w'' → A8 x w'')) ∧
  (∀ v6 v8 : Value, ∀ z, T w_3 z → A6 v6 z → A8 v8 z → (∃ v, binV .bool .neq v6 v8 = some v)) ∧
  (∀ v6 v8 : Value, ∀ z, T w_3 z → (∃ v, fieldAddrV (tyOf tyTab 28) 1 x2 = some v)) ∧
  (∀ v6 v8 : Value, ∀ z, T w_3 z → (LoadP CC 26 ((fieldAddrV (tyOf tyTab 28) 1 x2).getD undef) z fun x y => Grow z y ∧ ∀ w'', T y w'' → A11 x w'')) ∧
  (∀ v6 v8 v11 : Value, ∀ z, T w_3 z → A11 v11 z → (CallP CC 157 [v11] z fun x y => Grow z y ∧ ∀ w'', T y w'' → A12 x w'')) ∧
  (∀ v6 v8 v11 v12 : Value, ∀ z, T w_3 z → (∃ v, fieldAddrV (tyOf tyTab 28) 1 x3 = some v)) ∧
  (∀ v6 v8 v11 v12 : Value, ∀ z, T w_3 z → (LoadP CC 26 ((fieldAddrV (tyOf tyTab 28) 1 x3).getD undef) z fun x y => Grow z y ∧ ∀ w'', T y w'' → A14 x w'')) ∧
  (∀ v6 v8 v11 v12 v14 : Value, ∀ z, T w_3 z → A11 v11 z → A12 v12 z → A14 v14 z → (CallP CC 157 [v14] z fun x y => Grow z y ∧ ∀ w'', T y w'' → A15 x w'')) ∧
  (∀ v6 v8 v11 v12 v14 v15 : Value, ∀ z, T w_3 z → A11 v11 z → A12 v12 z → A14 v14 z → A15 v15 z → (CallP CC 156 [v12, v15] z fun x y => Grow z y ∧ ∀ w'', T y w'' → A16 x w'')) ∧
  (∀ v6 v8 v11 v12 v14 v15 v16 : Value, ∀ z, T w_3 z → A6 v6 z → A8 v8 z → A11 v11 z → A12 v12 z → A14 v14 z → A15 v15 z → A16 v16 z → (CallP CC 155 [((binV .bool .neq v6 v8).getD undef), v16] z fun x y => Grow z y ∧ ∀ w'', T y w'' → A17 x w'')) ∧
  (∀ v6 v8 v11 v12 v14 v15 v16 v17 : Value, ∀ z, T w_3 z → L [] z → A6 v6 z → A8 v8 z → A11 v11 z → A12 v12 z → A14 v14 z → A15 v15 z → A16 v16 z → A17 v17 z → StoreP CC 28 x4 v17 z fun y => T z y ∧ (∀ w'', T y w'' → As13 undef w'') ∧ ∀ w'', Grow y w'' → L [x4] w'') ∧
  ∀ v6 v8 v11 v12 v14 v15 v16 v17 vs13 : Value, ∀ (h : Nat → Value) (w_4 : World), T w_3 w_4 → A6 v6 w_4 → A8 v8 w_4 → A11 v11 w_4 → A12 v12 w_4 → A14 v14 w_4 → A15 v15 w_4 → A16 v16 w_4 → A17 v17 w_4 → As13 vs13 w_4 → L [x4] w_4 → 
  ∃ ad r, x4 = .pointer (some ad) ∧ (loadVar 28 ad).run CC.P w_4 = .ok r w_4 ∧
  R r w_4
theorem V91_eq (a0 a1 : Value) (w : World) (R : Value → World → Prop) : V91 a0 a1 w R = FnP CC { keep := fun _ => [], lin := fun _ => [] } Tryz.f91 [a0, a1] w R := by kernel_rfl
theorem call91 {a0 a1 : Value} {w : World} {R : Value → World → Prop} (h : V91 a0 a1 w R) : CallP CC 91 [a0, a1] w R :=
  call_of_vc CC.ok _ Tryz.func91 (V91_eq a0 a1 w R ▸ h)
end Go.Proofs.YtaajkcngcalgoaaGreat
set_option maxRecDepth 100000
namespace Go.Proofs.YtaajkcngcalgoaaGreat
open Go Go.Vc
theorem ti2 : TI Tryz.prog 2 1 false [.int .i64 0] 8 := TI.of_chk (by kernel_rfl)
@[simp] theorem ty2 : tyOf tyTab 2 = .int .i64 := rfl
theorem ti3 : TI Tryz.prog 3 1 false [.int .i64 0] 8 := TI.of_chk (by kernel_rfl)
@[simp] theorem ty3 : tyOf tyTab 3 = .int .i64 := rfl
theorem ti4 : TI Tryz.prog 4 1 false [.bool false] 1 := TI.of_chk (by kernel_rfl)
@[simp] theorem ty4 : tyOf tyTab 4 = .bool := rfl
theorem ti5 : TI Tryz.prog 5 1 false [.int .u8 0] 1 := TI.of_chk (by kernel_rfl)
@[simp] theorem ty5 : tyOf tyTab 5 = .int .u8 := rfl
theorem ti22 : TI Tryz.prog 22 1 false [.slice none 0 0] 24 := TI.of_chk (by kernel_rfl)
theorem sl22 : SL Tryz.prog 22 23 := SL.of_chk (by kernel_rfl)
@[simp] theorem ty22 : tyOf tyTab 22 = .slice 1 := rfl
theorem ti23 : TI Tryz.prog 23 1 false [.slice none 0 0] 24 := TI.of_chk (by kernel_rfl)
theorem sl23 : SL Tryz.prog 23 30 := SL.of_chk (by kernel_rfl)
@[simp] theorem ty23 : tyOf tyTab 23 = .slice 4 := rfl
theorem ti25 : TI Tryz.prog 25 4 true [.int .i64 0, .slice none 0 0, .slice none 0 0, .slice none 0 0] 80 := TI.of_chk (by kernel_rfl)
@[simp] theorem ty25 : tyOf tyTab 25 = .struct [(0, 1, false), (1, 1, false), (2, 1, false), (3, 1, false)] [.int .i64 0, .slice none 0 0, .slice none 0 0, .slice none 0 0] := rfl
theorem ti26 : TI Tryz.prog 26 1 false [.slice none 0 0] 24 := TI.of_chk (by kernel_rfl)
theorem sl26 : SL Tryz.prog 26 199 := SL.of_chk (by kernel_rfl)
@[simp] theorem ty26 : tyOf tyTab 26 = .slice 1 := rfl
theorem ti28 : TI Tryz.prog 28 2 true [.bool false, .slice none 0 0] 32 := TI.of_chk (by kernel_rfl)
@[simp] theorem ty28 : tyOf tyTab 28 = .struct [(0, 1, false), (1, 1, false)] [.bool false, .slice none 0 0] := rfl
theorem ti30 : TI Tryz.prog 30 4 true [.bool false, .slice none 0 0, .bool false, .slice none 0 0] 64 := TI.of_chk (by kernel_rfl)
@[simp] theorem ty30 : tyOf tyTab 30 = .struct [(0, 2, true), (2, 2, true)] [.bool false, .slice none 0 0, .bool false, .slice none 0 0] := rfl
theorem ti37 : TI Tryz.prog 37 6 true [.int .u8 0, .slice none 0 0, .slice none 0 0, .slice none 0 0, .slice none 0 0, .int .i64 0] 112 := TI.of_chk (by kernel_rfl)
@[simp] theorem ty37 : tyOf tyTab 37 = .struct [(0, 1, false), (1, 1, false), (2, 1, false), (3, 1, false), (4, 1, false), (5, 1, false)] [.int .u8 0, .slice none 0 0, .slice none 0 0, .slice none 0 0, .slice none 0 0, .int .i64 0] := rfl
theorem ti60 : TI Tryz.prog 60 1 false [.nilFunc] 8 := TI.of_chk (by kernel_rfl)
@[simp] theorem ty60 : tyOf tyTab 60 = .other := rfl
theorem ti67 : TI Tryz.prog 67 1 false [.slice none 0 0] 24 := TI.of_chk (by kernel_rfl)
theorem sl67 : SL Tryz.prog 67 3 := SL.of_chk (by kernel_rfl)
@[simp] theorem ty67 : tyOf tyTab 67 = .slice 1 := rfl
theorem ti69 : TI Tryz.prog 69 5 true [.int .i64 0, .slice none 0 0, .slice none 0 0, .slice none 0 0, .slice none 0 0] 104 := TI.of_chk (by kernel_rfl)
@[simp] theorem ty69 : tyOf tyTab 69 = .struct [(0, 4, true), (4, 1, false)] [.int .i64 0, .slice none 0 0, .slice none 0 0, .slice none 0 0, .slice none 0 0] := rfl
@[simp] theorem ty81 : tyOf tyTab 81 = .struct [(0, 1, false), (1, 4, true)] [.bool false, .bool false, .slice none 0 0, .bool false, .slice none 0 0] := rfl
theorem ti94 : TI Tryz.prog 94 1 false [.slice none 0 0] 24 := TI.of_chk (by kernel_rfl)
theorem sl94 : SL Tryz.prog 94 4 := SL.of_chk (by kernel_rfl)
@[simp] theorem ty94 : tyOf tyTab 94 = .slice 1 := rfl
theorem ti102 : TI Tryz.prog 102 1 false [.slice none 0 0] 24 := TI.of_chk (by kernel_rfl)
theorem sl102 : SL Tryz.prog 102 2 := SL.of_chk (by kernel_rfl)
@[simp] theorem ty102 : tyOf tyTab 102 = .slice 1 := rfl
@[simp] theorem ty105 : tyOf tyTab 105 = .other := rfl
@[simp] theorem ty109 : tyOf tyTab 109 = .struct [(0, 4, true), (4, 1, false), (5, 1, false)] [.int .i64 0, .slice none 0 0, .slice none 0 0, .slice none 0 0, .pointer none, .int .i64 0] := rfl
@[simp] theorem ty112 : tyOf tyTab 112 = .slice 1 := rfl
theorem ti114 : TI Tryz.prog 114 1 false [.nilFunc] 8 := TI.of_chk (by kernel_rfl)
@[simp] theorem ty114 : tyOf tyTab 114 = .other := rfl
@[simp] theorem ty116 : tyOf tyTab 116 = .struct [(0, 1, false)] [.nilFunc] := rfl
@[simp] theorem ty120 : tyOf tyTab 120 = .struct [(0, 1, false), (1, 1, false), (2, 1, false)] [.slice none 0 0, .slice none 0 0, .slice none 0 0] := rfl
@[simp] theorem ty122 : tyOf tyTab 122 = .struct [(0, 3, true), (3, 1, false), (4, 1, false), (5, 1, false)] [.slice none 0 0, .slice none 0 0, .slice none 0 0, .int .i64 0, .slice none 0 0, .int .i64 0] := rfl
theorem ti124 : TI Tryz.prog 124 1 false [.nilFunc] 8 := TI.of_chk (by kernel_rfl)
@[simp] theorem ty124 : tyOf tyTab 124 = .other := rfl
theorem ti127 : TI Tryz.prog 127 4 true [.bool false, .slice none 0 0, .bool false, .slice none 0 0] 64 := TI.of_chk (by kernel_rfl)
@[simp] theorem ty127 : tyOf tyTab 127 = .struct [(0, 2, true), (2, 2, true)] [.bool false, .slice none 0 0, .bool false, .slice none 0 0] := rfl
theorem ti135 : TI Tryz.prog 135 8 true [.bool false, .slice none 0 0, .bool false, .slice none 0 0, .bool false, .slice none 0 0, .bool false, .slice none 0 0] 128 := TI.of_chk (by kernel_rfl)
@[simp] theorem ty135 : tyOf tyTab 135 = .array 2 4 [.bool false, .slice none 0 0, .bool false, .slice none 0 0, .bool false, .slice none 0 0, .bool false, .slice none 0 0] := rfl
@[simp] theorem ty140 : tyOf tyTab 140 = .other := rfl
theorem ti147 : TI Tryz.prog 147 1 false [.pointer none] 8 := TI.of_chk (by kernel_rfl)
@[simp] theorem ty147 : tyOf tyTab 147 = .other := rfl
theorem ti148 : TI Tryz.prog 148 1 false [.nilFunc] 8 := TI.of_chk (by kernel_rfl)
@[simp] theorem ty148 : tyOf tyTab 148 = .other := rfl
@[simp] theorem ty150 : tyOf tyTab 150 = .struct [(0, 1, false), (1, 1, false), (2, 1, false)] [.slice none 0 0, .nilFunc, .int .i64 0] := rfl
@[simp] theorem ty152 : tyOf tyTab 152 = .struct [(0, 1, false), (1, 1, false)] [.slice none 0 0, .slice none 0 0] := rfl
theorem ti154 : TI Tryz.prog 154 3 true [.slice none 0 0, .slice none 0 0, .int .i64 0] 56 := TI.of_chk (by kernel_rfl)
@[simp] theorem ty154 : tyOf tyTab 154 = .struct [(0, 2, true), (2, 1, false)] [.slice none 0 0, .slice none 0 0, .int .i64 0] := rfl
theorem sl155 : SL Tryz.prog 155 154 := SL.of_chk (by kernel_rfl)
@[simp] theorem ty155 : tyOf tyTab 155 = .slice 3 := rfl
@[simp] theorem ty178 : tyOf tyTab 178 = .slice 2 := rfl
theorem ti180 : TI Tryz.prog 180 4 true [.int .i64 0, .int .i64 0, .int .i64 0, .int .i64 0] 32 := TI.of_chk (by kernel_rfl)
@[simp] theorem ty180 : tyOf tyTab 180 = .struct [(0, 1, false), (1, 1, false), (2, 1, false), (3, 1, false)] [.int .i64 0, .int .i64 0, .int .i64 0, .int .i64 0] := rfl
theorem ti198 : TI Tryz.prog 198 1 false [.int .u64 0] 8 := TI.of_chk (by kernel_rfl)
@[simp] theorem ty198 : tyOf tyTab 198 = .int .u64 := rfl
theorem ti199 : TI Tryz.prog 199 1 false [.int .u32 0] 4 := TI.of_chk (by kernel_rfl)
@[simp] theorem ty199 : tyOf tyTab 199 = .int .u32 := rfl
theorem sl200 : SL Tryz.prog 200 102 := SL.of_chk (by kernel_rfl)
@[simp] theorem ty200 : tyOf tyTab 200 = .slice 1 := rfl
theorem ti202 : TI Tryz.prog 202 1 false [.pointer none] 8 := TI.of_chk (by kernel_rfl)
@[simp] theorem ty202 : tyOf tyTab 202 = .other := rfl
theorem ti206 : TI Tryz.prog 206 6 true [.int .i64 0, .slice none 0 0, .slice none 0 0, .slice none 0 0, .pointer none, .int .i64 0] 96 := TI.of_chk (by kernel_rfl)
@[simp] theorem ty206 : tyOf tyTab 206 = .struct [(0, 4, true), (4, 1, false), (5, 1, false)] [.int .i64 0, .slice none 0 0, .slice none 0 0, .slice none 0 0, .pointer none, .int .i64 0] := rfl
theorem sl207 : SL Tryz.prog 207 210 := SL.of_chk (by kernel_rfl)
@[simp] theorem ty207 : tyOf tyTab 207 = .slice 1 := rfl
theorem ti210 : TI Tryz.prog 210 1 true [.nilFunc] 8 := TI.of_chk (by kernel_rfl)
@[simp] theorem ty210 : tyOf tyTab 210 = .struct [(0, 1, false)] [.nilFunc] := rfl
@[simp] theorem ty213 : tyOf tyTab 213 = .struct [(0, 1, false), (1, 1, false), (2, 1, false)] [.slice none 0 0, .slice none 0 0, .slice none 0 0] := rfl
@[simp] theorem ty215 : tyOf tyTab 215 = .struct [(0, 3, true), (3, 1, false), (4, 1, false), (5, 1, false)] [.slice none 0 0, .slice none 0 0, .slice none 0 0, .int .i64 0, .slice none 0 0, .int .i64 0] := rfl
@[simp] theorem ty218 : tyOf tyTab 218 = .struct [(0, 1, false)] [.nilFunc] := rfl
@[simp] theorem ty219 : tyOf tyTab 219 = .other := rfl
@[simp] theorem ty224 : tyOf tyTab 224 = .struct [(0, 4, true)] [.int .i64 0, .slice none 0 0, .slice none 0 0, .slice none 0 0] := rfl
theorem ti225 : TI Tryz.prog 225 1 false [.nilFunc] 8 := TI.of_chk (by kernel_rfl)
@[simp] theorem ty225 : tyOf tyTab 225 = .other := rfl
@[simp] theorem ty227 : tyOf tyTab 227 = .struct [(0, 1, false), (1, 1, false), (2, 1, false)] [.int .i64 0, .int .i64 0, .nilFunc] := rfl
@[simp] theorem ty230 : tyOf tyTab 230 = .struct [(0, 1, false)] [.nilFunc] := rfl
@[simp] theorem ty248 : tyOf tyTab 248 = .slice 1 := rfl
theorem ti251 : TI Tryz.prog 251 1 false [.nilFunc] 8 := TI.of_chk (by kernel_rfl)
@[simp] theorem ty251 : tyOf tyTab 251 = .other := rfl
end Go.Proofs.YtaajkcngcalgoaaGreat
namespace Go.Vc
open Go
def wval : List Nat → Nat
  | [] => 0
  | x :: r => x + 4294967296 * wval r
def Dig (ws : List Nat) : Prop := ∀ x ∈ ws, x < 4294967296
def trimL : List Nat → List Nat
  | [] => []
  | x :: r => match trimL r with
    | [] => if x = 0 then [] else [x]
    | y :: s => x :: y :: s
theorem wval_append (a b : List Nat) : wval (a ++ b) = wval a + 4294967296 ^ a.length * wval b := by
  induction a with
  | nil => simp [wval]
  | cons x r ih =>
    simp only [List.cons_append, wval, ih, List.length_cons, Nat.pow_succ, Nat.mul_add]
    rw [Nat.mul_comm (4294967296 ^ r.length) 4294967296, Nat.mul_assoc, Nat.add_assoc]
theorem wval_lt {ws : List Nat} (h : Dig ws) : wval ws < 4294967296 ^ ws.length := by
  induction ws with
  | nil => simp [wval]
  | cons x r ih =>
    have hx := h x (by simp)
    have hr := ih (fun y hy => h y (by simp [hy]))
    simp only [wval, List.length_cons, Nat.pow_succ]
    omega
theorem trimL_snoc_zero (l : List Nat) : trimL (l ++ [0]) = trimL l := by
  induction l with
  | nil => simp [trimL]
  | cons x r ih => simp only [List.cons_append, trimL, ih]
theorem trimL_snoc (l : List Nat) {x : Nat} (h : x ≠ 0) : trimL (l ++ [x]) = l ++ [x] := by
  induction l with
  | nil => simp [trimL, h]
  | cons y r ih =>
    simp only [List.cons_append, trimL, ih]
    split
    · rename_i h; simp at h
    · rename_i h; rw [← h]
theorem wval_trimL (l : List Nat) : wval (trimL l) = wval l := by
  induction l with
  | nil => rfl
  | cons x r ih =>
    simp only [trimL, wval]
    split
    · rename_i h
      rw [h] at ih
      simp only [wval] at ih
      split
      · simp only [wval]; omega
      · simp only [wval]; omega
    · rename_i h
      rw [h] at ih
      simp only [wval] at ih ⊢
      omega
theorem trimL_length_le (l : List Nat) : (trimL l).length ≤ l.length := by
  induction l with
  | nil => simp [trimL]
  | cons x r ih =>
    simp only [trimL]
    split
    · split <;> simp
    · rename_i h; rw [h] at ih; simp at ih ⊢; omega
def Trim (l : List Nat) : Prop := trimL l = l
theorem trimL_trim (l : List Nat) : Trim (trimL l) := by
  unfold Trim
  induction l with
  | nil => rfl
  | cons x r ih =>
    simp only [trimL]
    split
    · split
      · rfl
      · rename_i hx; simp [trimL, hx]
    · rename_i h
      rw [h] at ih
      rw [trimL.eq_2, ih]
theorem Trim.tail {x : Nat} {r : List Nat} (h : Trim (x :: r)) : Trim r := by
  unfold Trim at h ⊢
  simp only [trimL] at h
  split at h
  · split at h
    · cases h
    · rename_i hr _
      have : r = [] := by simpa using h
      subst this; rfl
  · rename_i hr
    rw [hr]; simpa using h
theorem Trim.pos {l : List Nat} (h : Trim l) (hl : l ≠ []) : 0 < wval l := by
  induction l with
  | nil => exact absurd rfl hl
  | cons x r ih =>
    simp only [wval]
    by_cases hr : r = []
    · subst hr
      simp only [Trim, trimL] at h
      split at h
      · cases h
      · rename_i hx; simp [wval]; omega
    · have := ih h.tail hr
      omega
theorem trimL_nil_iff (l : List Nat) : trimL l = [] ↔ wval l = 0 := by
  constructor
  · intro h; rw [← wval_trimL, h]; rfl
  · intro h
    cases ht : trimL l with
    | nil => rfl
    | cons x r =>
      have := (trimL_trim l).pos (by rw [ht]; simp)
      rw [wval_trimL] at this
      omega
theorem Trim.inj : ∀ {a b : List Nat}, Trim a → Trim b → Dig a → Dig b → wval a = wval b → a = b
  | [], [], _, _, _, _, _ => rfl
  | [], y :: s, _, hb, _, _, h => by have := hb.pos (by simp); rw [← h] at this; simp [wval] at this
  | x :: r, [], ha, _, _, _, h => by have := ha.pos (by simp); rw [h] at this; simp [wval] at this
  | x :: r, y :: s, ha, hb, da, db, h => by
    simp only [wval] at h
    have hx := da x (by simp)
    have hy := db y (by simp)
    have e1 : x = y := by omega
    have e2 : wval r = wval s := by omega
    rw [e1, Trim.inj ha.tail hb.tail (fun z hz => da z (by simp [hz])) (fun z hz => db z (by simp [hz])) e2]
theorem Trim.le_of_lt {l : List Nat} (h : Trim l) {n : Nat} (hv : wval l < 4294967296 ^ n) : l.length ≤ n := by
  induction l generalizing n with
  | nil => simp
  | cons x r ih =>
    cases n with
    | zero => have := h.pos (by simp); simp at hv; omega
    | succ n =>
      simp only [wval, Nat.pow_succ] at hv
      have : wval r < 4294967296 ^ n := by omega
      have := ih h.tail this
      simp; omega
theorem Trim.pow_le {l : List Nat} (h : Trim l) (hl : l ≠ []) : 4294967296 ^ (l.length - 1) ≤ wval l := by
  induction l with
  | nil => exact absurd rfl hl
  | cons x r ih =>
    by_cases hr : r = []
    · subst hr; have := h.pos hl; simp; omega
    · have h1 := ih h.tail hr
      simp only [wval, List.length_cons, Nat.add_sub_cancel]
      have : r.length = (r.length - 1) + 1 := by have := List.length_pos_iff.2 hr; omega
      rw [this, Nat.pow_succ]
      omega
theorem wval_lt_of_length_lt {a b : List Nat} (hb : Trim b) (da : Dig a) (h : a.length < b.length) : wval a < wval b := by
  have h1 := wval_lt da
  have h2 := hb.pow_le (by intro e; subst e; simp at h)
  have h3 : 4294967296 ^ a.length ≤ 4294967296 ^ (b.length - 1) := Nat.pow_le_pow_right (by omega) (by omega)
  omega
def u32s (ws : List Nat) : List Value := ws.map fun (x : Nat) => .int .u32 x
theorem u32s_length (ws : List Nat) : (u32s ws).length = ws.length := by simp [u32s]
theorem u32s_get {ws : List Nat} {i x : Nat} (h : ws[i]? = some x) : (u32s ws)[i]? = some (.int .u32 x) := by simp [u32s, h]
theorem u32s_one (ws : List Nat) : ∀ u ∈ u32s ws, u.oneCell' = true := by
  intro u hu
  simp only [u32s, List.mem_map] at hu
  obtain ⟨x, _, rfl⟩ := hu
  rfl
def RepW (p : Nat → TypeId → Prop) (w : World) (v : Value) (ws : List Nat) : Prop := Sli p w 199 1 v ws.length (u32s ws) ∧ Dig ws
section
variable {p q : Nat → TypeId → Prop} {w w' : World} {v : Value} {ws : List Nat}
theorem RepW.keep (h : RepW p w v ws) (hk : Kp p w w') : RepW p w' v ws := ⟨h.1.keep hk, h.2⟩
theorem RepW.grow (h : RepW p w v ws) (hk : Grow w w') : RepW p w' v ws := h.keep hk.kp
theorem RepW.mono (h : RepW p w v ws) (hq : ∀ k, k < w.heap.size → p k 199 → q k 199) : RepW q w v ws := ⟨h.1.mono hq, h.2⟩
theorem RepW.nil : RepW p w (.slice none 0 0) [] := ⟨Sli.nil, fun _ h => by cases h⟩
theorem RepW.lim (h : RepW p w v ws) : ws.length ≤ 1099511627776 := h.1.lim
theorem RepW.shape (h : RepW p w v ws) : ∃ a cap, v = .slice a ws.length cap ∧ ws.length ≤ cap := h.1.shape
theorem RepW.take (h : RepW p w v ws) {n : Nat} (hn : n ≤ ws.length) {H : Option Value} (hH : (match H with | none => some ws.length | some v => natV v) = some n) :
    ∃ x, sliceV (.slice 1) v none H = some x ∧ RepW p w x (ws.take n) := by
  obtain ⟨x, h1, h2⟩ := h.1.part (lo := 0) (L := none) (Nat.zero_le n) hn (.inl rfl) rfl hH
  refine ⟨x, h1, ?_, fun y hy => h.2 y (List.mem_of_mem_take hy)⟩
  have e : (ws.take n).length = n - 0 := by simp; omega
  have e2 : u32s (ws.take n) = cut (u32s ws) (0 * 1) ((n - 0) * 1) := by simp [cut, u32s, List.map_take]
  rw [e, e2]; exact h2
end
end Go.Vc
namespace Go.Proofs.YtaajkcngcalgoaaGreat
open Go Go.Vc
attribute [local irreducible] Tryz.prog
theorem c157 {p : Nat → TypeId → Prop} {w : World} {v : Value} {ws : List Nat} (h : RepW p w v ws) :
    CallP CC 157 [v] w fun r w' => Grow w w' ∧ RepW p w' r (trimL ws) := by
  apply call157
  refine ⟨fun y w1 => ∃ ws', RepW p w1 y ws' ∧ trimL ws' = trimL ws ∧ Grow w w1, fun y _ => vlen y, ⟨ws, h, rfl, Grow.refl w⟩, ?_⟩
  rintro y - w1 ⟨ws', hr, ht, hg⟩
  have hlen := hr.1.len
  have hlim := hr.lim
  obtain ⟨a, cap, rfl, hcap⟩ := hr.shape
  rcases List.eq_nil_or_concat ws' with rfl | ⟨l, x, rfl⟩
  · refine ⟨fun _ _ => True, ?_⟩
    simp [lenV, binV, intV, pickV, CondP]
    intro w' hg'
    rw [← ht]
    exact ⟨hg.trans hg', by simpa [trimL] using hr.grow hg'⟩
  · simp only [List.concat_eq_append, List.length_append, List.length_cons, List.length_nil, Nat.zero_add] at *
    obtain ⟨ad, had⟩ := hr.1.idx (k := .i64) (i := l.length) (by simp)
    have e1 : IntKind.i64.wrap (((l.length + 1 : Nat) : Int) - 1) = (l.length : Int) := by rw [wrap_i64 (by omega)]; omega
    have hx : x < 4294967296 := hr.2 x (by simp)
    refine ⟨fun v _ => v = .int .u32 x, ?_⟩
    simp only [ty26, lenV, binV, intV, Option.getD_some, if_true, e1, had, Option.some.injEq, exists_eq', implies_true, true_and]
    refine ⟨fun w' hg' _ => ?_, ?_⟩
    · refine (hr.1.keep hg'.kp).load1 ti199 had (u := .int .u32 x) (by simp [u32s]) ⟨Grow.refl _, fun _ _ => rfl⟩
    · have hpos : decide (((l.length + 1 : Nat) : Int) > 0) = true := by simp
      simp only [hpos, true_implies]
      refine ⟨?_, ?_, ?_⟩
      · rintro v w2 - rfl; simp
      · rintro v w2 - rfl; simp [pickV]
      · rintro v - w2 hg' rfl
        simp only [pickV, Option.getD_some, if_true]
        refine cB (fun h0 => ?_) (fun h0 => ?_)
        · have hx0 : x = 0 := by have := beq_iff_eq.1 h0; omega
          subst hx0
          obtain ⟨s, hs1, hs2⟩ := (hr.grow hg').take (n := l.length) (H := some (.int .i64 (l.length : Int))) (by simp) rfl
          refine ⟨_, rfl, px rfl ?_⟩
          rw [e1]
          refine px hs1 ⟨⟨l, by simpa using hs2, ?_, hg.trans hg'⟩, ?_⟩
          · rw [← ht, trimL_snoc_zero]
          · obtain ⟨a', cap', rfl, _⟩ := hs2.shape
            simp
        · refine ⟨hg.trans hg', ?_⟩
          have hx0 : x ≠ 0 := by intro e; subst e; simp at h0
          rw [← ht, trimL_snoc _ hx0]
          exact hr.grow hg'
def sgn (neg : Bool) (n : Nat) : Int := if neg then -(n : Int) else n
def RepZ (L : Nat) (p : Nat → TypeId → Prop) (w : World) (v : Value) (z : Int) : Prop :=
  ∃ neg s ws, v = .agg #[.bool neg, s] ∧ RepW p w s ws ∧ ws.length ≤ L ∧ z = sgn neg (wval ws)
def CanZ (p : Nat → TypeId → Prop) (w : World) (v : Value) (z : Int) : Prop :=
  ∃ neg s ws, v = .agg #[.bool neg, s] ∧ RepW p w s ws ∧ Trim ws ∧ (neg = true → ws ≠ []) ∧ z = sgn neg (wval ws)
def Nw (p : Nat → TypeId → Prop) (w : World) : Prop := ∀ k, w.heap.size ≤ k → p k 199
theorem Nw.grow {p : Nat → TypeId → Prop} {w w' : World} (h : Nw p w) (hg : Grow w w') : Nw p w' := fun k hk => h k (Nat.le_trans hg.size hk)
theorem CanZ.rep {p : Nat → TypeId → Prop} {w : World} {v : Value} {z : Int} {L : Nat} (h : CanZ p w v z) (hz : z.natAbs < 4294967296 ^ L) : RepZ L p w v z := by
  obtain ⟨neg, s, ws, rfl, hw, ht, hn, rfl⟩ := h
  refine ⟨neg, s, ws, rfl, hw, ht.le_of_lt ?_, rfl⟩
  unfold sgn at hz
  split at hz <;> simpa using hz
theorem RepZ.size {L : Nat} {p : Nat → TypeId → Prop} {w : World} {v : Value} {z : Int} (h : RepZ L p w v z) : z.natAbs < 4294967296 ^ L := by
  obtain ⟨neg, s, ws, rfl, hw, hl, rfl⟩ := h
  have h1 := wval_lt hw.2
  have h2 : 4294967296 ^ ws.length ≤ 4294967296 ^ L := Nat.pow_le_pow_right (by omega) hl
  unfold sgn
  split <;> simp <;> omega
theorem RepZ.keep {L : Nat} {p : Nat → TypeId → Prop} {w w' : World} {v : Value} {z : Int} (h : RepZ L p w v z) (hk : Kp p w w') : RepZ L p w' v z := by
  obtain ⟨neg, s, ws, rfl, hw, hr⟩ := h
  exact ⟨neg, s, ws, rfl, hw.keep hk, hr⟩
theorem CanZ.keep {p : Nat → TypeId → Prop} {w w' : World} {v : Value} {z : Int} (h : CanZ p w v z) (hk : Kp p w w') : CanZ p w' v z := by
  obtain ⟨neg, s, ws, rfl, hw, hr⟩ := h
  exact ⟨neg, s, ws, rfl, hw.keep hk, hr⟩
theorem RepW_mod {p : Nat → TypeId → Prop} {w w' : World} {v : Value} {ws : List Nat} {g : Nat} {e : TypeId} (h : RepW p w v ws) (hm : Mod g e w w') (he : 199 ≠ e) : RepW p w' v ws := ⟨h.1.mod hm he, h.2⟩
theorem c155 {p : Nat → TypeId → Prop} {w : World} {neg : Bool} {v : Value} {ws : List Nat} (h : RepW p w v ws) :
    CallP CC 155 [.bool neg, v] w fun r w' => Grow w w' ∧ CanZ p w' r (sgn neg (wval ws)) := by
  apply call155
  refine AllocP.mk ti28 fun g w1 hg1 hlt hlt' hb => ?_
  refine (c157 (h.grow hg1)).mono ?_
  rintro t w2 ⟨hg2, ht⟩
  have hb2 := hb.grow hg2
  obtain ⟨a, cap, rfl, _⟩ := ht.shape
  refine ⟨Mod g 28, fun l w => match l with
      | [] => Blk w g 28 [.bool false, .slice none 0 0]
      | _ => Blk w g 28 [.bool (neg && decide (0 < (trimL ws).length)), .slice a (trimL ws).length cap], Mod.grow, Mod.trans, fun w' h => hb2.grow h, fun _ _ => True, ?_⟩
  have e1 : (if neg = true then Value.bool (decide (((trimL ws).length : Int) > 0)) else Value.bool false) = .bool (neg && decide (0 < (trimL ws).length)) := by
    cases neg <;> simp
  simp only [ty26, lenV, binV, intV, Option.getD_some, if_true, pickV, Option.some.injEq, exists_eq', implies_true, true_and, e1, ty28]
  refine ⟨fun w3 _ => ⟨_, rfl⟩, ?_, ?_⟩
  · intro w3 hm hL
    exact StoreP.row (cs := [.bool (neg && decide (0 < (trimL ws).length)), .slice a (trimL ws).length cap]) hL ti28 rfl rfl (by simp [Value.oneCell']) fun w4 hu hb4 => ⟨Mod.of hu hL, fun w5 hg => hb4.grow hg⟩
  · intro _ _ w3 hm _ hL
    refine ⟨_, _, rfl, res_row ti28 hL rfl, ?_⟩
    refine ⟨Mod.new (hg1.trans hg2) hm hlt, _, _, _, rfl, RepW_mod ht hm (by decide), trimL_trim ws, ?_, ?_⟩
    · simp; intro _ h1 h2; simp [h2] at h1
    · rw [wval_trimL]
      cases neg with
      | false => rfl
      | true =>
        by_cases h0 : trimL ws = []
        · have := (trimL_nil_iff ws).1 h0
          simp [h0, sgn, this]
        · have : 0 < (trimL ws).length := List.length_pos_iff.2 h0
          simp [this]
theorem c96 {p : Nat → TypeId → Prop} {w : World} {n : Int} (hn : -9223372036854775808 ≤ n ∧ n < 9223372036854775808) (hp : Nw p w) :
    CallP CC 96 [.int .i64 n] w fun r w' => Grow w w' ∧ CanZ p w' r n := by
  apply call96
  refine AllocP.mk ti28 fun g w1 hg1 hlt hlt' hb => ?_
  have main : ∀ (neg : Bool) (m : Nat), m < 18446744073709551616 → sgn neg m = n →
      LitP CC 26 2 [(0, .int .u32 ((m % 4294967296 : Nat) : Int)), (1, .int .u32 ((m / 4294967296 : Nat) : Int))] w1 fun x17 w_2 =>
      CallP CC 155 [.bool neg, x17] w_2 fun x18 w_3 =>
      StoreP CC 28 (.pointer (some ⟨g, 0, none⟩)) x18 w_3 fun w_4 =>
      ∃ ad r, Value.pointer (some ⟨g, 0, none⟩) = .pointer (some ad) ∧ (loadVar 28 ad).run CC.P w_4 = .ok r w_4 ∧ (Grow w w_4 ∧ CanZ p w_4 r n) := by
    intro neg m hm hs
    refine LitP.mk (C := CC) sl26 ti199 rfl (by decide) (by decide) (cs := u32s [m % 4294967296, m / 4294967296]) rfl fun g2 w2 hg2 hlt2 hlt2' hb2 => ?_
    have hw2 : RepW p w2 (.slice (some ⟨g2, 0, none⟩) 2 2) [m % 4294967296, m / 4294967296] := by
      refine ⟨⟨⟨rfl, by simp⟩, .inr ⟨g2, 0, 2, rfl, Nat.le_refl _, hp g2 (Nat.le_trans hg1.size hlt2), _, _, hb2, fun j u hu => by simpa using hu⟩⟩, ?_⟩
      intro x hx
      simp only [List.mem_cons, List.not_mem_nil, or_false] at hx
      rcases hx with rfl | rfl <;> omega
    refine (c155 hw2).mono ?_
    rintro r w3 ⟨hg3, neg', s, ws, rfl, hw, ht, hnn, hv⟩
    have hb3 := (hb.grow hg2).grow hg3
    refine StoreP.row (cs := [.bool neg', s]) hb3 ti28 rfl rfl ?_ fun w4 hu hb4 => ?_
    · obtain ⟨a, cap, rfl, _⟩ := hw.shape; simp [Value.oneCell']
    · have hm4 := Mod.of hu hb3
      refine ⟨_, _, rfl, res_row ti28 hb4 rfl, Mod.new ((hg1.trans hg2).trans hg3) hm4 hlt, neg', s, ws, rfl, RepW_mod hw hm4 (by decide), ht, hnn, ?_⟩
      rw [← hv, ← hs]
      have e : wval [m % 4294967296, m / 4294967296] = m := by simp only [wval]; omega
      rw [e]
  have e64 : ∀ x : Int, IntKind.u64.wrap x = x % 18446744073709551616 := wrap_u64_mod
  have e32 : ∀ x : Int, IntKind.u32.wrap x = x % 4294967296 := wrap_u32_mod
  refine px rfl (px rfl (cD (fun h => ?_) (fun h => ?_)))
  · have e1 : (-n).toNat = -n := by omega
    have h1 : IntKind.u64.wrap (0 - IntKind.u64.wrap n) = ((-n).toNat : Int) := by rw [e64, e64]; omega
    have h2 := main true (-n).toNat (by omega) (by simp only [sgn, if_true]; omega)
    refine px rfl (px rfl ?_)
    rw [h1]
    refine px (v := .int .u32 (((-n).toNat % 4294967296 : Nat) : Int)) ?_ (px rfl (px (v := .int .u32 (((-n).toNat / 4294967296 : Nat) : Int)) ?_ ?_))
    · simp only [convV]; rw [e32]; congr 2
    · simp only [convV]; rw [e32]
      have : ((((-n).toNat : Nat) : Int)).fdiv (2 ^ min (32 : Int).toNat IntKind.u64.bits) = ((-n).toNat / 4294967296 : Nat) := by
        show (((-n).toNat : Nat) : Int).fdiv 4294967296 = _
        rw [Int.fdiv_eq_ediv_of_nonneg _ (by omega)]; omega
      rw [this]; congr 2; omega
    · have : decide (n < 0) = true := by simpa using h
      rw [this]; exact h2
  · have h1 : IntKind.u64.wrap n = (n.toNat : Int) := by rw [e64]; omega
    have h2 := main false n.toNat (by omega) (by simp [sgn]; omega)
    rw [h1]
    refine px rfl ?_
    refine px (v := .int .u32 ((n.toNat % 4294967296 : Nat) : Int)) ?_ (px rfl (px (v := .int .u32 ((n.toNat / 4294967296 : Nat) : Int)) ?_ ?_))
    · simp only [convV]; rw [e32]; congr 2
    · simp only [convV]; rw [e32]
      have : ((n.toNat : Nat) : Int).fdiv (2 ^ min (32 : Int).toNat IntKind.u64.bits) = (n.toNat / 4294967296 : Nat) := by
        show ((n.toNat : Nat) : Int).fdiv 4294967296 = _
        rw [Int.fdiv_eq_ediv_of_nonneg _ (by omega)]; omega
      rw [this]; congr 2; omega
    · have : decide (n < 0) = false := by simpa using h
      rw [this]; exact h2
theorem c103 {L : Nat} {p : Nat → TypeId → Prop} {w : World} {v : Value} {z : Int} (h : RepZ L p w v z) :
    CallP CC 103 [v] w fun r w' => Grow w w' ∧ r = .int .i64 z.sign := by
  obtain ⟨neg, s, ws, rfl, hw, hl, rfl⟩ := h
  apply call103
  refine BoxP.mk fun g w1 hg1 hlt hlt' hb => px rfl ?_
  refine LoadP.fld hb ti26 rfl ((c157 (hw.grow hg1)).mono ?_)
  rintro t w2 ⟨hg2, ht⟩
  refine px ht.1.len (px rfl (cB (fun h => ?_) (fun h => px rfl (LoadP.fld (hb.grow hg2) ti4 rfl (cB (fun hn => ?_) (fun hn => ?_))))))
  · have h0 : trimL ws = [] := by have := beq_iff_eq.1 h; exact List.length_eq_zero_iff.1 (by omega)
    have := (trimL_nil_iff ws).1 h0
    exact ⟨hg1.trans hg2, by simp [this, sgn]⟩
  all_goals
    have h0 : wval ws ≠ 0 := by
      intro h0
      have := (trimL_nil_iff ws).2 h0
      rw [this] at h; simp at h
    refine ⟨hg1.trans hg2, ?_⟩
    subst hn
  · have : (sgn true (wval ws)).sign = -1 := Int.sign_eq_neg_one_of_neg (by simp [sgn]; omega)
    rw [this]
  · have : (sgn false (wval ws)).sign = 1 := Int.sign_eq_one_of_pos (by simp [sgn]; omega)
    rw [this]
theorem c199 {p q : Nat → TypeId → Prop} {w : World} {v : Value} {ws : List Nat} (h : RepW p w v ws) (hq : Nw q w) :
    CallP CC 199 [v] w fun r w' => Grow w w' ∧ RepW q w' r ws := by
  apply call199
  obtain ⟨a, cap, rfl, hcap⟩ := h.shape
  refine EqP.sliceNil sl26 (cB (fun ha => ?_) (fun ha => ?_))
  · refine ⟨Grow.refl _, ?_⟩
    rcases h.1.2 with ⟨he, hn⟩ | ⟨g, off, cap', he, _⟩
    · have : ws = [] := List.length_eq_zero_iff.1 hn
      subst this; exact RepW.nil
    · simp only [Value.slice.injEq] at he; rw [he.1] at ha; cases ha
  · refine LitP.mk (C := CC) sl26 ti199 rfl (by decide) (by decide) (cs := []) rfl fun g w1 hg1 hlt hlt' hb => ?_
    have ho : Vc.Own w1 w.heap.size 199 1 (.slice (some ⟨g, 0, none⟩) 0 0) 0 [] := Vc.Own.lit hb rfl hlt (by decide)
    have hlim := h.lim
    refine AppendP.own (C := CC) sl26 ti199 rfl (by decide) ho (h.grow hg1).1 (u32s_one ws) (by omega) (by simp only [maxLen]; omega) hg1.size fun v' w' ho' hu hf => ?_
    refine ⟨hg1.upd_new hu (fun k hk => by simp [Value.ownBlock] at hk; omega), ?_, h.2⟩
    simp only [Nat.zero_add, List.nil_append] at ho'
    exact ho'.sli hlim (fun g' hg' _ => hq g' hg')
theorem CanZ.mod {p : Nat → TypeId → Prop} {w w' : World} {v : Value} {z : Int} {g : Nat} {e : TypeId} (h : CanZ p w v z) (hm : Mod g e w w') (he : 199 ≠ e) : CanZ p w' v z := by
  obtain ⟨neg, s, ws, rfl, hw, hr⟩ := h
  exact ⟨neg, s, ws, rfl, RepW_mod hw hm he, hr⟩
theorem RepZ.mod {L : Nat} {p : Nat → TypeId → Prop} {w w' : World} {v : Value} {z : Int} {g : Nat} {e : TypeId} (h : RepZ L p w v z) (hm : Mod g e w w') (he : 199 ≠ e) : RepZ L p w' v z := by
  obtain ⟨neg, s, ws, rfl, hw, hr⟩ := h
  exact ⟨neg, s, ws, rfl, RepW_mod hw hm he, hr⟩
theorem CanZ.grow {p : Nat → TypeId → Prop} {w w' : World} {v : Value} {z : Int} (h : CanZ p w v z) (hm : Grow w w') : CanZ p w' v z := h.keep hm.kp
theorem RepZ.grow {L : Nat} {p : Nat → TypeId → Prop} {w w' : World} {v : Value} {z : Int} (h : RepZ L p w v z) (hm : Grow w w') : RepZ L p w' v z := h.keep hm.kp
def ResZ (p : Nat → TypeId → Prop) (w : World) (g : Nat) (z : Int) : Prop := ∃ cs, cs.length = 2 ∧ Blk w g 28 cs ∧ CanZ p w (.agg cs.toArray) z
theorem ResZ.grow {p : Nat → TypeId → Prop} {w w' : World} {g : Nat} {z : Int} (h : ResZ p w g z) (hm : Grow w w') : ResZ p w' g z := by
  obtain ⟨cs, hl, hb, hc⟩ := h
  exact ⟨cs, hl, hb.grow hm, hc.grow hm⟩
theorem storeZ {p : Nat → TypeId → Prop} {w : World} {g : Nat} {z : Int} {old : List Value} {v : Value} {k : World → Prop} (hb : Blk w g 28 old) (ho : old.length = 2) (h : CanZ p w v z)
    (hk : ∀ w', Mod g 28 w w' → ResZ p w' g z → k w') : StoreP CC 28 (.pointer (some ⟨g, 0, none⟩)) v w k := by
  obtain ⟨neg, s, ws, rfl, hw, hr⟩ := h
  refine StoreP.row (cs := [.bool neg, s]) hb ti28 ho rfl ?_ fun w4 hu hb4 => ?_
  · obtain ⟨a, cap, rfl, _⟩ := hw.shape; simp [Value.oneCell']
  · have hm := Mod.of hu hb
    exact hk w4 hm ⟨_, rfl, hb4, neg, s, ws, rfl, RepW_mod hw hm (by decide), hr⟩
theorem resZ {p : Nat → TypeId → Prop} {w : World} {g : Nat} {z : Int} (h : ResZ p w g z) : ∃ r, (loadVar 28 ⟨g, 0, none⟩).run CC.P w = .ok r w ∧ CanZ p w r z := by
  obtain ⟨cs, hl, hb, hc⟩ := h
  exact ⟨_, res_row ti28 hb hl, hc⟩
theorem c153 {L : Nat} {p q : Nat → TypeId → Prop} {w : World} {v : Value} {z : Int} (h : RepZ L p w v z) (hq : Nw q w) :
    CallP CC 153 [v] w fun r w' => Grow w w' ∧ CanZ q w' r (-z) := by
  obtain ⟨neg, s, ws, rfl, hw, hl, hz⟩ := h
  apply call153
  refine BoxP.mk fun g1 w1 hg1 hlt1 hlt1' hb1 => AllocP.mk ti28 fun g2 w2 hg2 hlt2 hlt2' hb2 => ?_
  have hne : g1 ≠ g2 := by omega
  have hb1' := hb1.grow hg2
  have hw2 := (hw.grow hg1).grow hg2
  have hz' : -z = sgn (!neg) (wval ws) := by subst hz; cases neg <;> simp [sgn]
  have hg02 := hg1.trans hg2
  have hlt : w.heap.size ≤ g2 := Nat.le_trans hg1.size hlt2
  refine ⟨Mod g2 28, fun l w => match l with | [] => Blk w g2 28 [.bool false, .slice none 0 0] | _ => ResZ q w g2 (-z), Mod.grow, Mod.trans, fun w' h => hb2.grow h,
    fun v _ => v = .bool neg, fun v _ => v = s, fun v w => RepW q w v ws, fun v w => CanZ q w v (-z), fun _ _ => True,
    fun _ _ => ⟨_, rfl⟩, ?_, ?_, fun _ _ _ => ⟨_, rfl⟩, ?_, ?_, ?_, ?_, ?_⟩
  · intro w3 hm
    exact LoadP.fld (hb1'.mod hm hne) ti4 rfl ⟨Grow.refl _, fun _ _ => rfl⟩
  · rintro _ w3 hm rfl; exact ⟨_, rfl⟩
  · intro _ w3 hm
    exact LoadP.fld (hb1'.mod hm hne) ti26 rfl ⟨Grow.refl _, fun _ _ => rfl⟩
  · rintro _ v7 w3 hm rfl
    refine (c199 (RepW_mod hw2 hm (by decide)) (hq.grow (Mod.new hg02 hm hlt))).mono ?_
    rintro r w4 ⟨hg, hr⟩
    exact ⟨hg, fun w5 hm5 => RepW_mod hr hm5 (by decide)⟩
  · rintro _ _ v8 w3 hm rfl rfl h8
    refine (c155 h8).mono ?_
    rintro r w4 ⟨hg, hr⟩
    rw [← hz'] at hr
    exact ⟨hg, fun w5 hm5 => hr.mod hm5 (by decide)⟩
  · intro _ _ _ v9 w3 hm hL _ _ _ h9
    exact storeZ hL rfl h9 fun w4 hm4 hr => ⟨hm4, fun _ _ => trivial, fun w5 hg => hr.grow hg⟩
  · intro _ _ _ _ _ _ w3 hm _ _ _ _ _ hL
    obtain ⟨r, hr, hv⟩ := resZ hL
    exact ⟨_, _, rfl, hr, Mod.new hg02 hm hlt, hv⟩
end Go.Proofs.YtaajkcngcalgoaaGreat
namespace Go.Proofs.YtaajkcngcalgoaaGreat
open Go Go.Vc
attribute [local irreducible] Tryz.prog
def pre (xs : List Nat) : Nat → Nat
  | 0 => 0
  | n + 1 => pre xs n + 4294967296 ^ n * xs.getD n 0
theorem pre_cons (x : Nat) (r : List Nat) (n : Nat) : pre (x :: r) (n + 1) = x + 4294967296 * pre r n := by
  induction n with
  | zero => simp [pre]
  | succ n ih =>
    rw [pre, ih, pre, Nat.mul_add, Nat.pow_succ]
    simp only [List.getD_cons_succ]
    rw [Nat.mul_comm (4294967296 ^ n) 4294967296, Nat.mul_assoc, Nat.add_assoc]
theorem pre_nil (n : Nat) : pre [] n = 0 := by induction n with
  | zero => rfl
  | succ n ih => simp [pre, ih]
theorem pre_eq : ∀ (xs : List Nat) (n : Nat), xs.length ≤ n → pre xs n = wval xs
  | [], n, _ => by rw [pre_nil]; rfl
  | x :: r, 0, h => by simp at h
  | x :: r, n + 1, h => by rw [pre_cons, pre_eq r n (by simpa using h)]; rfl
def Carr (w : World) (base go gc n val : Nat) : Prop :=
  ∃ v xs c, Blk w go 26 [v] ∧ Vc.Own w base 199 1 v n (u32s xs) ∧ Blk w gc 198 [.int .u64 (c : Nat)] ∧ Dig xs ∧ xs.length = n ∧ c ≤ 1 ∧ wval xs + 4294967296 ^ n * c = val
theorem Carr.grow {w w' : World} {base go gc n val : Nat} (h : Carr w base go gc n val) (hg : Grow w w') : Carr w' base go gc n val := by
  obtain ⟨v, xs, c, h1, h2, h3, hr⟩ := h
  exact ⟨v, xs, c, h1.grow hg, Vc.Own.grow h2 hg, h3.grow hg, hr⟩
theorem Carr.sys {w w' : World} {base go gc n val m : Nat} (h : Carr w base go gc n val) (hg : Vc.Sys m w w') : Carr w' base go gc n val := by
  obtain ⟨v, xs, c, h1, h2, h3, hr⟩ := h
  exact ⟨v, xs, c, h1.sys hg, Vc.Own.sys h2 hg, h3.sys hg, hr⟩
theorem Dig_nil : Dig [] := fun x hx => by cases hx
theorem Dig_snoc {xs : List Nat} {x : Nat} (h : Dig xs) (hx : x < 4294967296) : Dig (xs ++ [x]) := by
  intro y hy
  rcases List.mem_append.1 hy with hy | hy
  · exact h y hy
  · simp at hy; subst hy; exact hx
theorem c232 {w : World} {base go gc n val x : Nat} (h : Carr w base go gc n val) (hne : go ≠ gc) (hb : base ≤ go) (hb' : base ≤ gc) (hbw : base ≤ w.heap.size) (hn : n < 1099511627776) (hx : x ≤ 8589934590) :
    CallP CC 232 [.int .u64 (x : Nat), .pointer (some ⟨gc, 0, none⟩), .pointer (some ⟨go, 0, none⟩)] w fun _ w' => Zone base (fun k e => e ≠ 199 ∧ k ≠ go ∧ k ≠ gc) w w' ∧ Carr w' base go gc (n + 1) (val + 4294967296 ^ n * x) := by
  obtain ⟨v, xs, c, h1, h2, h3, hd, hl, hc, hv⟩ := h
  apply call232
  refine LoadP.fld h3 ti198 rfl ?_
  refine pu (x := ((x + c : Nat) : Int)) rfl (by omega) ?_
  refine LoadP.fld h1 ti26 rfl ?_
  refine pwm rfl ?_
  have e1 : (((x + c : Nat) : Int)) % 4294967296 = (((x + c) % 4294967296 : Nat) : Int) := by omega
  rw [e1]
  refine LitP.mk (C := CC) sl26 ti199 rfl (by decide) (by decide) (cs := u32s [(x + c) % 4294967296]) rfl fun g w1 hg1 hlt hlt' hbl => ?_
  have hs : Sli (fun _ _ => True) w1 199 1 (.slice (some ⟨g, 0, none⟩) 1 1) 1 (u32s [(x + c) % 4294967296]) :=
    ⟨⟨rfl, by decide⟩, .inr ⟨g, 0, 1, rfl, Nat.le_refl _, trivial, _, _, hbl, fun j u hu => by simpa using hu⟩⟩
  have h1' := h1.grow hg1
  have h3' := h3.grow hg1
  have h2' := Vc.Own.grow h2 hg1
  refine AppendP.own (C := CC) sl26 ti199 rfl (by decide) h2' hs (u32s_one _) (by omega) (by simp only [maxLen]; omega) (Nat.le_trans hbw hg1.size) fun v' w2 ho hu hf => ?_
  have hz2 : Zone base (fun k e => e ≠ 199 ∧ k ≠ go ∧ k ≠ gc) w1 w2 := Zone.own hu h2' (by simp)
  -- the variables are no rows of words
  have hno : ∀ k cs, Blk w1 k 26 cs ∨ Blk w1 k 198 cs → v.ownBlock ≠ some k := by
    intro k cs hk e
    rcases h2'.2 with ⟨rfl, _⟩ | ⟨g', cap, cur, rfl, _, hg', _⟩
    · simp [Value.ownBlock] at e
    · simp [Value.ownBlock] at e
      subst e
      rcases hk with hk | hk <;> (unfold Blk at hk; rw [hg'] at hk; simp at hk)
  have h1'' := h1'.upd hu (hno _ _ (.inl h1'))
  have h3'' := h3'.upd hu (hno _ _ (.inr h3'))
  refine px rfl ?_
  obtain ⟨a', cap', rfl⟩ := ho.len
  refine StoreP.var ti26 h1'' rfl fun w3 hu3 hb3 => ?_
  have h3''' := h3''.upd hu3 (Ne.symm hne)
  have hz3 : Zone base (fun k e => e ≠ 199 ∧ k ≠ go ∧ k ≠ gc) w2 w3 := Zone.of hu3 h1'' hb (by simp)
  have e2 : ((((x + c : Nat) : Int))).fdiv (2 ^ min (32 : Int).toNat IntKind.u64.bits) = ((x + c) / 4294967296 : Nat) := by
    show (((x + c : Nat) : Int)).fdiv 4294967296 = _
    rw [Int.fdiv_eq_ediv_of_nonneg _ (by omega)]; omega
  rw [e2]
  refine StoreP.var ti198 h3''' rfl fun w4 hu4 hb4 => ?_
  have hz4 : Zone base (fun k e => e ≠ 199 ∧ k ≠ go ∧ k ≠ gc) w3 w4 := Zone.of hu4 h3''' hb' (by simp)
  refine ⟨(Zone.grow hg1).trans (hz2.trans (hz3.trans hz4)), _, xs ++ [(x + c) % 4294967296], (x + c) / 4294967296, hb3.upd hu4 hne, ?_, hb4, Dig_snoc hd (Nat.mod_lt _ (by decide)), by simp [hl], by omega, ?_⟩
  · have hoo : Vc.Own w2 base 199 1 (Value.slice a' (n + 1) cap') (n + 1) (u32s (xs ++ [(x + c) % 4294967296])) := by
      have : u32s (xs ++ [(x + c) % 4294967296]) = u32s xs ++ u32s [(x + c) % 4294967296] := by simp [u32s]
      rw [this]; exact ho
    refine Vc.Own.keep hoo fun g' cur hgv hgc => ?_
    have hne1 : g' ≠ go := by intro e; subst e; unfold Blk at h1''; rw [hgc] at h1''; simp at h1''
    have hne2 : g' ≠ gc := by intro e; subst e; unfold Blk at h3''; rw [hgc] at h3''; simp at h3''
    exact hu4.block g' _ hne2 (hu3.block g' _ hne1 hgc)
  · rw [wval_append, hl, ← hv]
    simp only [wval, Nat.mul_zero, Nat.add_zero, Nat.pow_succ]
    have := Nat.div_add_mod (x + c) 4294967296
    have e3 : 4294967296 ^ n * ((x + c) % 4294967296) + 4294967296 ^ n * 4294967296 * ((x + c) / 4294967296) = 4294967296 ^ n * (x + c) := by
      rw [Nat.mul_assoc, ← Nat.mul_add, Nat.add_comm, this]
    rw [Nat.add_assoc, e3, Nat.mul_add]
    omega
theorem c233 {w : World} {base go gc n val : Nat} (h : Carr w base go gc n val) (hbw : base ≤ w.heap.size) (hn : n < 1099511627776) :
    CallP CC 233 [.pointer (some ⟨go, 0, none⟩), .pointer (some ⟨gc, 0, none⟩)] w fun r w' => Zone base (fun k e => e ≠ 199 ∧ k ≠ go ∧ k ≠ gc) w w' ∧
      ∃ ws, Vc.Own w' base 199 1 r (n + 1) (u32s ws) ∧ Dig ws ∧ ws.length = n + 1 ∧ wval ws = val := by
  obtain ⟨v, xs, c, h1, h2, h3, hd, hl, hc, hv⟩ := h
  apply call233
  refine LoadP.fld h1 ti26 rfl (LoadP.fld h3 ti198 rfl ?_)
  refine pwm rfl ?_
  have e1 : ((c : Nat) : Int) % 4294967296 = ((c : Nat) : Int) := by omega
  rw [e1]
  refine LitP.mk (C := CC) sl26 ti199 rfl (by decide) (by decide) (cs := u32s [c]) rfl fun g w1 hg1 hlt hlt' hbl => ?_
  have hs : Sli (fun _ _ => True) w1 199 1 (.slice (some ⟨g, 0, none⟩) 1 1) 1 (u32s [c]) :=
    ⟨⟨rfl, by decide⟩, .inr ⟨g, 0, 1, rfl, Nat.le_refl _, trivial, _, _, hbl, fun j u hu => by simpa using hu⟩⟩
  have h2' := Vc.Own.grow h2 hg1
  refine AppendP.own (C := CC) sl26 ti199 rfl (by decide) h2' hs (u32s_one _) (by omega) (by simp only [maxLen]; omega) (Nat.le_trans hbw hg1.size) fun v' w2 ho hu hf => ?_
  refine ⟨(Zone.grow hg1).trans (Zone.own hu h2' (by simp)), xs ++ [c], ?_, Dig_snoc hd (by omega), by simp [hl], ?_⟩
  · have : u32s (xs ++ [c]) = u32s xs ++ u32s [c] := by simp [u32s]
    rw [this]; exact ho
  · rw [wval_append, hl, ← hv]
    simp [wval]
theorem c223 {w : World} : CallP CC 223 [] w fun r w' => Grow w w' ∧ ∃ go gc, go ≠ gc ∧ w.heap.size ≤ go ∧ w.heap.size ≤ gc ∧ Carr w' w.heap.size go gc 0 0 ∧
    r = .tuple #[.func (.func 232) #[] #[.pointer (some ⟨gc, 0, none⟩), .pointer (some ⟨go, 0, none⟩)], .func (.func 233) #[] #[.pointer (some ⟨go, 0, none⟩), .pointer (some ⟨gc, 0, none⟩)]] := by
  apply call223
  refine AllocP.mk ti26 fun g1 w1 hg1 hlt1 hlt1' hb1 => AllocP.mk ti198 fun g2 w2 hg2 hlt2 hlt2' hb2 => ?_
  have hne : g1 ≠ g2 := by omega
  refine StoreP.var ti198 hb2 rfl fun w3 hu3 hb3 => ?_
  have hm3 := Mod.of hu3 hb2
  refine px rfl (px rfl ?_)
  have hlt12 := Nat.le_trans hg1.size hlt2
  refine ⟨Mod.new (hg1.trans hg2) hm3 hlt12, g1, g2, hne, hlt1, hlt12, ⟨.slice none 0 0, [], 0, (hb1.grow hg2).mod hm3 hne, Vc.Own.nil _ _ _ _, hb3, Dig_nil, rfl, by decide, rfl⟩, rfl⟩
def PairsAt (p : Nat → TypeId → Prop) (g1 g2 : Nat) (a b : Value) (xs ys : List Nat) (w : World) : Prop :=
  Blk w g1 26 [a] ∧ Blk w g2 26 [b] ∧ RepW p w a xs ∧ RepW p w b ys
theorem iter234 {p : Nat → TypeId → Prop} {w0 : World} {g1 g2 : Nat} {a b : Value} {xs ys : List Nat} :
    Iter CC 234 [.pointer (some ⟨g1, 0, none⟩), .pointer (some ⟨g2, 0, none⟩)] w0 (fun _ => PairsAt p g1 g2 a b xs ys) (max xs.length ys.length)
      (fun k _ vs => vs = [.int .u64 (xs.getD k 0 : Nat), .int .u64 (ys.getD k 0 : Nat)]) := by
  intro y J Jx hy hS hJ hJx hyield w hw
  have hc : CallP (CY y) 234 [.func (.yield y) #[] #[], .pointer (some ⟨g1, 0, none⟩), .pointer (some ⟨g2, 0, none⟩)] w fun _ w' => J (max xs.length ys.length) w' ∨ Jx w' := by
    apply call234
    obtain ⟨hb1, hb2, ha, hb⟩ := hS 0 w hw
    refine LoadP.fld hb1 ti26 rfl (px ha.1.len (LoadP.fld hb2 ti26 rfl (px hb.1.len ?_)))
    have hla := ha.lim
    have hlb := hb.lim
    refine px (v := .int .i64 ((max xs.length ys.length : Nat) : Int)) ?_ ?_
    · show some (Value.int .i64 (if ((ys.length : Nat) : Int) > (xs.length : Nat) then ((ys.length : Nat) : Int) else (xs.length : Nat))) = _
      congr 2
      split <;> omega
    refine ⟨fun v w' => ∃ k : Nat, v = .int .i64 k ∧ k ≤ max xs.length ys.length ∧ J k w', fun v _ => max xs.length ys.length - (vint v).toNat, ⟨0, rfl, Nat.zero_le _, hw⟩, ?_⟩
    rintro v - w3 ⟨k, rfl, hk, hJk⟩
    obtain ⟨hb1, hb2, ha, hb⟩ := hS k w3 hJk
    refine px rfl (cD (fun hlt => ?_) (fun hge => ?_))
    · have hkN : k < max xs.length ys.length := by omega
      have done : callV (CY y) (.func (.yield y) #[] #[]) [.int .u64 (xs.getD k 0 : Nat), .int .u64 (ys.getD k 0 : Nat)] w3 fun x36 w_10 =>
          ∃ x37, unV .not x36 = some x37 ∧ CondP x37 (J (max xs.length ys.length) w_10 ∨ Jx w_10) (
            ∃ x38, binV (.int .i64) .add (.int .i64 (k : Int)) (.int .i64 1) = some x38 ∧
            (∃ k' : Nat, x38 = .int .i64 k' ∧ k' ≤ max xs.length ys.length ∧ J k' w_10) ∧ max xs.length ys.length - (vint x38).toNat < max xs.length ys.length - (vint (.int .i64 (k : Int))).toNat) := by
        have h := hyield k w3 _ hkN hJk rfl
        obtain ⟨f, tmps, assign, body, he, hr⟩ := h
        refine ⟨f, tmps, assign, body, he, hr.mono ?_⟩
        rintro e w4 ⟨v, rfl, hn, hv⟩
        refine ⟨v, rfl, hn, ?_⟩
        rcases hv with ⟨rfl, hv⟩ | ⟨rfl, hv⟩
        · refine px rfl (cF rfl (pi rfl (by omega) ⟨⟨k + 1, by simp, by omega, hv⟩, ?_⟩))
          simp only [vint_int]; omega
        · exact px rfl (cT rfl (.inr hv))
      have conv : ∀ x : Nat, x < 4294967296 → convV (.int .u64) (.int .u32 (x : Nat)) = some (.int .u64 (x : Nat)) := by
        intro x hx
        show some (Value.int .u64 (IntKind.u64.wrap (x : Nat))) = _
        rw [wrap_u64 (by omega)]
      refine LoadP.fld hb1 ti26 rfl (px ha.1.len (px rfl (cD (fun h1 => ?_) (fun h1 => ?_))))
      · have h1' : k < xs.length := by omega
        have hx : xs[k]? = some xs[k] := List.getElem?_eq_getElem h1'
        have hxd : xs.getD k 0 = xs[k] := by simp [List.getD_eq_getElem?_getD, hx]
        have hx4 := ha.2 xs[k] (List.getElem_mem h1')
        obtain ⟨ad, had⟩ := ha.1.idx (k := .i64) h1'
        refine LoadP.fld hb1 ti26 rfl (px had (Sli.load1 (C := CY y) ha.1 ti199 had (u32s_get hx) (px (conv _ hx4) ?_)))
        rw [hxd] at done
        refine LoadP.fld hb2 ti26 rfl (px hb.1.len (px rfl (cD (fun h2 => ?_) (fun h2 => ?_))))
        · have h2' : k < ys.length := by omega
          have hyv : ys[k]? = some ys[k] := List.getElem?_eq_getElem h2'
          have hyd : ys.getD k 0 = ys[k] := by simp [List.getD_eq_getElem?_getD, hyv]
          obtain ⟨ad2, had2⟩ := hb.1.idx (k := .i64) h2'
          rw [hyd] at done
          exact LoadP.fld hb2 ti26 rfl (px had2 (Sli.load1 (C := CY y) hb.1 ti199 had2 (u32s_get hyv) (px (conv _ (hb.2 ys[k] (List.getElem_mem h2'))) done)))
        · have hyd : ys.getD k 0 = 0 := by simp [List.getD_eq_getElem?_getD, List.getElem?_eq_none (show ys.length ≤ k by omega)]
          rw [hyd] at done
          exact done
      · have hxd : xs.getD k 0 = 0 := by simp [List.getD_eq_getElem?_getD, List.getElem?_eq_none (show xs.length ≤ k by omega)]
        rw [hxd] at done
        refine LoadP.fld hb2 ti26 rfl (px hb.1.len (px rfl (cD (fun h2 => ?_) (fun h2 => ?_))))
        · have h2' : k < ys.length := by omega
          have hyv : ys[k]? = some ys[k] := List.getElem?_eq_getElem h2'
          have hyd : ys.getD k 0 = ys[k] := by simp [List.getD_eq_getElem?_getD, hyv]
          obtain ⟨ad2, had2⟩ := hb.1.idx (k := .i64) h2'
          rw [hyd] at done
          exact LoadP.fld hb2 ti26 rfl (px had2 (Sli.load1 (C := CY y) hb.1 ti199 had2 (u32s_get hyv) (px (conv _ (hb.2 ys[k] (List.getElem_mem h2'))) done)))
        · omega
    · have : k = max xs.length ys.length := by omega
      subst this
      exact .inl hJk
  refine Calls.mono hc ?_
  rintro e w' ⟨v, rfl, hn, hv⟩
  exact ⟨⟨v, rfl⟩, hv⟩
theorem c224 {p : Nat → TypeId → Prop} {w : World} {a b : Value} {xs ys : List Nat} (ha : RepW p w a xs) (hb : RepW p w b ys) :
    CallP CC 224 [a, b] w fun r w' => Grow w w' ∧ ∃ g1 g2, w.heap.size ≤ g1 ∧ w.heap.size ≤ g2 ∧ r = .func (.func 234) #[] #[.pointer (some ⟨g1, 0, none⟩), .pointer (some ⟨g2, 0, none⟩)] ∧ PairsAt p g1 g2 a b xs ys w' := by
  apply call224
  refine BoxP.mk fun g1 w1 hg1 hlt1 hlt1' hb1 => BoxP.mk fun g2 w2 hg2 hlt2 hlt2' hb2 => px rfl ?_
  obtain ⟨a', ca, rfl, _⟩ := ha.shape
  obtain ⟨b', cb, rfl, _⟩ := hb.shape
  exact ⟨hg1.trans hg2, g1, g2, hlt1, Nat.le_trans hg1.size hlt2, rfl, hb1.grow hg2, hb2, (ha.grow hg1).grow hg2, (hb.grow hg1).grow hg2⟩
theorem Carr.kp {w w' : World} {base go gc n val : Nat} (h : Carr w base go gc n val) (hk : Kp (fun _ e => e = 26 ∨ e = 198 ∨ e = 199) w w') : Carr w' base go gc n val := by
  obtain ⟨v, xs, c, h1, h2, h3, hr⟩ := h
  exact ⟨v, xs, c, h1.keep hk (by simp), Vc.Own.keep h2 fun g cur _ hg => hk.cells g _ _ _ (by simp) hg, h3.keep hk (by simp), hr⟩
theorem PairsAt.zone {n0 : Nat} {q : Nat → TypeId → Prop} {g1 g2 : Nat} {a b : Value} {xs ys : List Nat} {w w' : World} (h : PairsAt (fun k _ => k < n0) g1 g2 a b xs ys w) (hz : Zone n0 q w w') (h1 : q g1 26) (h2 : q g2 26) :
    PairsAt (fun k _ => k < n0) g1 g2 a b xs ys w' :=
  ⟨h.1.zone hz (.inr h1), h.2.1.zone hz (.inr h2), ⟨h.2.2.1.1.zone hz fun k hk => .inl hk, h.2.2.1.2⟩, ⟨h.2.2.2.1.zone hz fun k hk => .inl hk, h.2.2.2.2⟩⟩
theorem PairsAt.sys {p : Nat → TypeId → Prop} {m : Nat} {g1 g2 : Nat} {a b : Value} {xs ys : List Nat} {w w' : World} (h : PairsAt p g1 g2 a b xs ys w) (hg : Vc.Sys m w w') : PairsAt p g1 g2 a b xs ys w' :=
  ⟨h.1.sys hg, h.2.1.sys hg, h.2.2.1.keep hg.kp, h.2.2.2.keep hg.kp⟩
theorem RepW.old {p : Nat → TypeId → Prop} {w : World} {v : Value} {ws : List Nat} (h : RepW p w v ws) : RepW (fun k _ => k < w.heap.size) w v ws := Go.Vc.RepW.mono h fun k hk _ => hk
theorem getD_lt {xs : List Nat} (h : Dig xs) (k : Nat) : xs.getD k 0 < 4294967296 := by
  rw [List.getD_eq_getElem?_getD]
  cases hx : xs[k]? with
  | none => simp
  | some x => exact h x (List.mem_of_getElem? hx)
theorem own_repW {q : Nat → TypeId → Prop} {w : World} {base : Nat} {v : Value} {n : Nat} {ws : List Nat} (h : Vc.Own w base 199 1 v n (u32s ws)) (hl : ws.length = n) (hn : n ≤ 1099511627776) (hd : Dig ws) (hq : ∀ k, base ≤ k → q k 199) : RepW q w v ws := by
  subst hl
  exact ⟨Vc.Own.sli h hn fun g hg _ => hq g hg, hd⟩
theorem c209 {p q : Nat → TypeId → Prop} {w : World} {a b : Value} {xs ys : List Nat} (ha : RepW p w a xs) (hb : RepW p w b ys) (hq : Nw q w) (hn : max xs.length ys.length < 1099511627776) :
    CallP CC 209 [a, b] w fun r w' => Grow w w' ∧ ∃ ws, RepW q w' r ws ∧ ws.length = max xs.length ys.length + 1 ∧ wval ws = wval xs + wval ys := by
  apply call209
  refine c223.mono ?_
  rintro _ w1 ⟨hg1, go, gc, hne, hgo, hgc, hC, rfl⟩
  have hgo1 : go < w1.heap.size := by obtain ⟨_, _, _, h, _⟩ := hC; exact h.lt
  have hgc1 : gc < w1.heap.size := by obtain ⟨_, _, _, _, _, h, _⟩ := hC; exact h.lt
  refine px rfl (px rfl (AllocP.mk ti251 fun g5 w2 hg2 hlt5 hlt5' hb5 => StoreP.var ti251 hb5 rfl fun w3 hu3 hb5' => ?_))
  have hm3 := Mod.of hu3 hb5
  have hg03 : Grow w w3 := Mod.new (hg1.trans hg2) hm3 (Nat.le_trans hg1.size hlt5)
  have hC3 : Carr w3 w.heap.size go gc 0 0 := (hC.grow hg2).kp (hm3.kp.mono fun k e he => .inl (by rintro rfl; simp at he))
  have hs13 : w1.heap.size ≤ w3.heap.size := Nat.le_trans hg2.size hm3.upd.size
  refine (c224 (RepW.old ha |>.keep hg03.kp) (RepW.old hb |>.keep hg03.kp)).mono ?_
  rintro _ w4 ⟨hg4, g1, g2, hl1, hl2, rfl, hP⟩
  have hg04 := hg03.trans hg4
  refine ⟨234, _, rfl, rfl, _, _, _, iter234 (p := fun k _ => k < w.heap.size) (a := a) (b := b) (xs := xs) (ys := ys), fun k w' vs h => by rw [h]; rfl,
    fun k w' => Zone w.heap.size (fun k e => e ≠ 199 ∧ k ≠ go ∧ k ≠ gc) w4 w' ∧ Carr w' w.heap.size go gc k (pre xs k + pre ys k) ∧ PairsAt (fun k _ => k < w.heap.size) g1 g2 a b xs ys w' ∧ Blk w' g5 251 [.func (.func 232) #[] #[.pointer (some ⟨gc, 0, none⟩), .pointer (some ⟨go, 0, none⟩)]],
    fun _ _ => False, ?_, fun _ _ h => h.2.2.1, ?_, ?_, fun _ _ h => h.elim⟩
  · intro w' hs
    exact ⟨Zone.sys hs hg04.size, (hC3.grow hg4).sys hs, hP.sys hs, (hb5'.grow hg4).sys hs⟩
  · rintro k hk x y w5 ⟨hz, hCk, hPk, hb5k⟩ harg w6 hs6
    simp only [List.cons.injEq, and_true] at harg
    obtain ⟨rfl, rfl⟩ := harg
    have hx := getD_lt ha.2 k
    have hy := getD_lt hb.2 k
    refine LoadP.fld (hb5k.sys hs6) ti251 rfl ?_
    refine pu (x := ((xs.getD k 0 + ys.getD k 0 : Nat) : Int)) (by show some _ = some _; rw [Int.natCast_add]) (by omega) ?_
    have hsz : w.heap.size ≤ w6.heap.size := Nat.le_trans hg04.size (Nat.le_trans hz.size hs6.size)
    refine callV.func rfl ((c232 (hCk.sys hs6) hne hgo hgc hsz (by omega) (by omega)).mono ?_)
    rintro _ w7 ⟨hz7, hC7⟩ w8 hs8
    have hz68 := (Zone.sys hs6 hg04.size).trans (hz7.trans (Zone.sys hs8 hg04.size))
    refine ⟨hz.trans hz68, ?_, hPk.zone hz68 ⟨by decide, by omega, by omega⟩ ⟨by decide, by omega, by omega⟩, hb5k.zone hz68 (.inr ⟨by decide, by omega, by omega⟩)⟩
    have e : pre xs (k + 1) + pre ys (k + 1) = pre xs k + pre ys k + 4294967296 ^ k * (xs.getD k 0 + ys.getD k 0) := by simp only [pre, Nat.mul_add]; omega
    rw [e]; exact hC7.sys hs8
  · rintro w7 ⟨hz, hCk, hPk, hb5k⟩
    refine callV.func rfl ((c233 hCk (Nat.le_trans hg04.size hz.size) hn).mono ?_)
    rintro r w8 ⟨hz8, ws, ho, hd, hl, hv⟩ w9 hs9
    have hzz := hz.trans (hz8.trans (Zone.sys hs9 (Nat.le_refl _)))
    refine ⟨Zone.new hg04 hzz (Nat.le_refl _), ws, own_repW (Vc.Own.sys ho hs9) hl (by omega) hd hq, hl, ?_⟩
    rw [hv, pre_eq xs _ (by omega), pre_eq ys _ (by omega)]
def cpl (xs ys : List Nat) : Nat → Nat
  | 0 => 0
  | k + 1 => cpl xs ys k + 4294967296 ^ k * (xs.getD k 0 + 4294967295 - ys.getD k 0)
theorem pre_lt {xs : List Nat} (h : Dig xs) : ∀ k, pre xs k < 4294967296 ^ k
  | 0 => by simp [pre]
  | k + 1 => by
    have := pre_lt h k
    have hx := getD_lt h k
    simp only [pre, Nat.pow_succ]
    have h2 : 4294967296 ^ k * xs.getD k 0 ≤ 4294967296 ^ k * 4294967295 := Nat.mul_le_mul_left _ (by omega)
    omega
theorem cpl_eq {xs ys : List Nat} (hy : Dig ys) : ∀ k, cpl xs ys k + pre ys k + 1 = pre xs k + 4294967296 ^ k
  | 0 => by simp [cpl, pre]
  | k + 1 => by
    have ih := cpl_eq (xs := xs) hy k
    have h := getD_lt hy k
    simp only [cpl, pre, Nat.pow_succ]
    have e : 4294967296 ^ k * (xs.getD k 0 + 4294967295 - ys.getD k 0) + 4294967296 ^ k * ys.getD k 0 = 4294967296 ^ k * xs.getD k 0 + 4294967296 ^ k * 4294967295 := by
      rw [← Nat.mul_add, ← Nat.mul_add]; congr 1; omega
    omega
theorem natV_one {k : IntKind} : natV (.int k 1) = some 1 := rfl
theorem natV_nat {k : IntKind} (n : Nat) : natV (.int k (n : Int)) = some n := rfl
theorem c211 {p q : Nat → TypeId → Prop} {w : World} {a b : Value} {xs ys : List Nat} (ha : RepW p w a xs) (hb : RepW p w b ys) (hq : Nw q w) (hn : max xs.length ys.length + 2 < 1099511627776) (hle : wval ys ≤ wval xs) :
    CallP CC 211 [a, b] w fun r w' => Grow w w' ∧ ∃ ws, RepW q w' r ws ∧ ws.length = max xs.length ys.length ∧ wval ws = wval xs - wval ys := by
  apply call211
  refine c223.mono ?_
  rintro _ w1 ⟨hg1, go, gc, hne, hgo, hgc, hC, rfl⟩
  have hgo1 : go < w1.heap.size := by obtain ⟨_, _, _, h, _⟩ := hC; exact h.lt
  have hgc1 : gc < w1.heap.size := by obtain ⟨_, _, _, _, _, h, _⟩ := hC; exact h.lt
  refine px rfl (px rfl (AllocP.mk ti251 fun g5 w2 hg2 hlt5 hlt5' hb5 => StoreP.var ti251 hb5 rfl fun w3 hu3 hb5' => ?_))
  have hm3 := Mod.of hu3 hb5
  have hg03 : Grow w w3 := Mod.new (hg1.trans hg2) hm3 (Nat.le_trans hg1.size hlt5)
  have hC3 : Carr w3 w.heap.size go gc 0 0 := (hC.grow hg2).kp (hm3.kp.mono fun k e he => .inl (by rintro rfl; simp at he))
  have hs13 : w1.heap.size ≤ w3.heap.size := Nat.le_trans hg2.size hm3.upd.size
  refine LoadP.fld hb5' ti251 rfl (callV.func rfl ((c232 (x := 4294967296) hC3 hne hgo hgc hg03.size (by decide) (by decide)).mono ?_))
  rintro _ w3' ⟨hz3, hC3'⟩
  have hg03' : Grow w w3' := Zone.new hg03 hz3 (Nat.le_refl _)
  have hb5'' := hb5'.zone hz3 (.inr ⟨by decide, by omega, by omega⟩)
  have hs13' := Nat.le_trans hs13 hz3.size
  refine (c224 (RepW.old ha |>.keep hg03'.kp) (RepW.old hb |>.keep hg03'.kp)).mono ?_
  rintro _ w4 ⟨hg4, g1, g2, hl1, hl2, rfl, hP⟩
  have hg04 := hg03'.trans hg4
  refine ⟨234, _, rfl, rfl, _, _, _, iter234 (p := fun k _ => k < w.heap.size) (a := a) (b := b) (xs := xs) (ys := ys), fun k w' vs h => by rw [h]; rfl,
    fun k w' => Zone w.heap.size (fun k e => e ≠ 199 ∧ k ≠ go ∧ k ≠ gc) w4 w' ∧ Carr w' w.heap.size go gc (k + 1) (4294967296 * (1 + cpl xs ys k)) ∧ PairsAt (fun k _ => k < w.heap.size) g1 g2 a b xs ys w' ∧ Blk w' g5 251 [.func (.func 232) #[] #[.pointer (some ⟨gc, 0, none⟩), .pointer (some ⟨go, 0, none⟩)]],
    fun _ _ => False, ?_, fun _ _ h => h.2.2.1, ?_, ?_, fun _ _ h => h.elim⟩
  · intro w' hs
    exact ⟨Zone.sys hs hg04.size, (hC3'.grow hg4).sys hs, hP.sys hs, (hb5''.grow hg4).sys hs⟩
  · rintro k hk x y w5 ⟨hz, hCk, hPk, hb5k⟩ harg w6 hs6
    simp only [List.cons.injEq, and_true] at harg
    obtain ⟨rfl, rfl⟩ := harg
    have hx := getD_lt ha.2 k
    have hy := getD_lt hb.2 k
    refine LoadP.fld (hb5k.sys hs6) ti251 rfl ?_
    have ev : ((xs.getD k 0 : Nat) : Int) + 4294967296 - 1 - (ys.getD k 0 : Nat) = ((xs.getD k 0 + 4294967295 - ys.getD k 0 : Nat) : Int) := by omega
    refine pu rfl (by omega) (pu rfl (by omega) ?_)
    refine pu (x := ((xs.getD k 0 + 4294967295 - ys.getD k 0 : Nat) : Int)) (by rw [← ev]; rfl) (by omega) ?_
    have hsz : w.heap.size ≤ w6.heap.size := Nat.le_trans hg04.size (Nat.le_trans hz.size hs6.size)
    refine callV.func rfl ((c232 (hCk.sys hs6) hne hgo hgc hsz (by omega) (by omega)).mono ?_)
    rintro _ w7 ⟨hz7, hC7⟩ w8 hs8
    have hz68 := (Zone.sys hs6 hg04.size).trans (hz7.trans (Zone.sys hs8 hg04.size))
    refine ⟨hz.trans hz68, ?_, hPk.zone hz68 ⟨by decide, by omega, by omega⟩ ⟨by decide, by omega, by omega⟩, hb5k.zone hz68 (.inr ⟨by decide, by omega, by omega⟩)⟩
    have e : 4294967296 * (1 + cpl xs ys (k + 1)) = 4294967296 * (1 + cpl xs ys k) + 4294967296 ^ (k + 1) * (xs.getD k 0 + 4294967295 - ys.getD k 0) := by
      simp only [cpl, Nat.pow_succ, ← Nat.add_assoc, Nat.mul_add]
      rw [Nat.mul_comm (4294967296 ^ k) 4294967296, Nat.mul_assoc]
    rw [e]; exact hC7.sys hs8
  · rintro w7 ⟨hz, hCk, hPk, hb5k⟩
    refine callV.func rfl ((c233 hCk (Nat.le_trans hg04.size hz.size) (by omega)).mono ?_)
    rintro r w8 ⟨hz8, ws, ho, hd, hl, hv⟩
    have hr : RepW q w8 r ws := own_repW ho hl (by omega) hd hq
    refine px hr.1.len (pi rfl (by omega) ?_)
    have hcut := hr.1.part (lo := 1) (hi := ws.length - 1) (L := some (.int .i64 1)) (H := some (.int .i64 ((ws.length : Int) - 1))) (by omega) (by omega) (.inr (by omega)) natV_one (by
      have : ((ws.length : Int) - 1) = ((ws.length - 1 : Nat) : Int) := by omega
      rw [this]; exact natV_nat _)
    obtain ⟨r', hr1, hr2⟩ := hcut
    refine px hr1 ?_
    intro w9 hs9
    have hzz := hz.trans (hz8.trans (Zone.sys hs9 (Nat.le_refl _)))
    generalize hN : max xs.length ys.length = N at *
    have hc := cpl_eq (xs := xs) hb.2 N
    rw [pre_eq xs N (by omega), pre_eq ys N (by omega)] at hc
    -- the words: one, N, one
    obtain ⟨w0, rest, rfl⟩ : ∃ w0 rest, ws = w0 :: rest := by cases ws with
      | nil => simp at hl
      | cons x r => exact ⟨x, r, rfl⟩
    obtain ⟨mid, c, rfl⟩ : ∃ mid c, rest = mid ++ [c] := by
      rcases List.eq_nil_or_concat rest with rfl | ⟨l, x, rfl⟩
      · simp at hl
      · exact ⟨l, x, by simp⟩
    have hlm : mid.length = N := by simpa using hl
    have hdm : Dig mid := fun x hx => hd x (by simp [hx])
    have hml := wval_lt hdm
    refine ⟨Zone.new hg04 hzz (Nat.le_refl _), mid, ?_, hlm, ?_⟩
    · refine ⟨?_, hdm⟩
      have e1 : (w0 :: (mid ++ [c])).length - 1 - 1 = mid.length := by simp
      have e2 : cut (u32s (w0 :: (mid ++ [c]))) (1 * 1) (mid.length * 1) = u32s mid := by simp [cut, u32s]
      rw [e1, e2] at hr2
      exact hr2.keep hs9.kp
    · simp only [wval, wval_append, Nat.mul_zero, Nat.add_zero, hlm] at hv
      have hw0 := hd w0 (by simp)
      rw [hlm] at hml
      have hxl : wval xs < 4294967296 ^ N := by rw [← pre_eq xs N (by omega)]; exact pre_lt ha.2 N
      have e3 : wval mid + 4294967296 ^ N * c = 1 + cpl xs ys N := by omega
      have e4 : wval mid + 4294967296 ^ N * c + wval ys = wval xs + 4294967296 ^ N := by omega
      rcases Nat.lt_trichotomy c 1 with h | h | h
      · have : c = 0 := by omega
        subst this; omega
      · subst h; omega
      · have : 4294967296 ^ N * 2 ≤ 4294967296 ^ N * c := Nat.mul_le_mul_left _ h
        omega
theorem c210 {p : Nat → TypeId → Prop} {w : World} {a b : Value} {xs ys : List Nat} (ha : RepW p w a xs) (hb : RepW p w b ys) (ta : Trim xs) (tb : Trim ys) :
    CallP CC 210 [a, b] w fun r w' => Grow w w' ∧ ∃ d : Int, r = .int .i64 d ∧ (d < 0 ↔ wval xs < wval ys) ∧ (0 < d ↔ wval ys < wval xs) := by
  apply call210
  have hla := ha.lim
  have hlb := hb.lim
  refine px ha.1.len (px hb.1.len (pi rfl (by omega) (px rfl (cB (fun h => ?_) (fun h => ?_)))))
  · intro w1 hs
    refine ⟨(Grow.refl w).sys_new hs (Nat.le_refl _), _, rfl, ?_⟩
    have hne : xs.length ≠ ys.length := by
      intro e; simp [e] at h
    rcases Nat.lt_or_gt_of_ne hne with hlt | hgt
    · have := wval_lt_of_length_lt tb ha.2 hlt; omega
    · have := wval_lt_of_length_lt ta hb.2 hgt; omega
  · have hlen : xs.length = ys.length := by
      simp at h; omega
    refine AllocP.mk ti3 fun g6 w2 hg2 hlt6 hlt6' hb6 => StoreP.var ti3 hb6 rfl fun w3 hu3 hb6' => ?_
    have hm3 := Mod.of hu3 hb6
    have hg03 : Grow w w3 := Mod.new hg2 hm3 hlt6
    have hs3 : w2.heap.size ≤ w3.heap.size := hm3.upd.size
    refine (c224 (RepW.old ha |>.keep hg03.kp) (RepW.old hb |>.keep hg03.kp)).mono ?_
    rintro _ w4 ⟨hg4, g1, g2, hl1, hl2, rfl, hP⟩
    have hg04 := hg03.trans hg4
    refine ⟨234, _, rfl, rfl, _, _, _, iter234 (p := fun k _ => k < w.heap.size) (a := a) (b := b) (xs := xs) (ys := ys), fun k w' vs h => by rw [h]; rfl,
      fun k w' => Zone w.heap.size (fun k _ => k ≠ g6) w4 w' ∧ Blk w' g6 3 [.int .i64 (((pre xs k : Nat) : Int) - (pre ys k : Nat)).sign] ∧ PairsAt (fun k _ => k < w.heap.size) g1 g2 a b xs ys w',
      fun _ _ => False, ?_, fun _ _ h => h.2.2, ?_, ?_, fun _ _ h => h.elim⟩
    · intro w' hs
      exact ⟨Zone.sys hs hg04.size, (hb6'.grow hg4).sys hs, hP.sys hs⟩
    · rintro k hk x y w5 ⟨hz, hbk, hPk⟩ harg w6 hs6
      simp only [List.cons.injEq, and_true] at harg
      obtain ⟨rfl, rfl⟩ := harg
      have hx := getD_lt ha.2 k
      have hy := getD_lt hb.2 k
      have hpx := pre_lt ha.2 k
      have hpy := pre_lt hb.2 k
      have hbk6 := hbk.sys hs6
      have step : ∀ d : Int, (((pre xs (k + 1) : Nat) : Int) - (pre ys (k + 1) : Nat)).sign = d → StoreP CC 3 (.pointer (some ⟨g6, 0, none⟩)) (.int .i64 d) w6 fun w_9 => ∀ w', Vc.Sys w4.heap.size w_9 w' →
          Zone w.heap.size (fun k _ => k ≠ g6) w4 w' ∧ Blk w' g6 3 [.int .i64 (((pre xs (k + 1) : Nat) : Int) - (pre ys (k + 1) : Nat)).sign] ∧ PairsAt (fun k _ => k < w.heap.size) g1 g2 a b xs ys w' := by
        intro d hd
        refine StoreP.var ti3 hbk6 rfl fun w7 hu7 hb7 w8 hs8 => ?_
        have hz68 := (Zone.sys hs6 hg04.size).trans ((Zone.of (q := fun k _ => k ≠ g6) hu7 hbk6 hlt6 (by simp)).trans (Zone.sys hs8 hg04.size))
        rw [hd]
        exact ⟨hz.trans hz68, hb7.sys hs8, hPk.zone hz68 (by omega) (by omega)⟩
      refine px rfl (cD (fun h1 => ?_) (fun h1 => px rfl (cD (fun h2 => ?_) (fun h2 => ?_))))
      · refine step _ (Int.sign_eq_neg_one_of_neg ?_)
        have : 4294967296 ^ k * (xs.getD k 0 + 1) ≤ 4294967296 ^ k * ys.getD k 0 := Nat.mul_le_mul_left _ (by omega)
        rw [Nat.mul_add] at this
        simp only [pre]; omega
      · refine step _ (Int.sign_eq_one_of_pos ?_)
        have : 4294967296 ^ k * (ys.getD k 0 + 1) ≤ 4294967296 ^ k * xs.getD k 0 := Nat.mul_le_mul_left _ (by omega)
        rw [Nat.mul_add] at this
        simp only [pre]; omega
      · intro w8 hs8
        have he : xs.getD k 0 = ys.getD k 0 := by omega
        have hz68 : Zone w.heap.size (fun k _ => k ≠ g6) w5 w8 := (Zone.sys hs6 hg04.size).trans (Zone.sys hs8 hg04.size)
        have e2 : (((pre xs (k + 1) : Nat) : Int) - (pre ys (k + 1) : Nat)) = (((pre xs k : Nat) : Int) - (pre ys k : Nat)) := by simp only [pre, he]; omega
        rw [e2]
        exact ⟨hz.trans hz68, hbk6.sys hs8, hPk.zone hz68 (by omega) (by omega)⟩
    · rintro w7 ⟨hz, hbk, hPk⟩
      refine LoadP.fld hbk ti3 rfl ?_
      intro w8 hs8
      refine ⟨(Zone.new hg04 hz (Nat.le_refl _)).sys_new hs8 (Nat.le_refl _), _, rfl, ?_⟩
      rw [pre_eq xs _ (by omega), pre_eq ys _ (by omega)]
      constructor
      · rw [Int.sign_neg_iff]; omega
      · rw [Int.sign_pos_iff]; omega
end Go.Proofs.YtaajkcngcalgoaaGreat
namespace Go.Proofs.YtaajkcngcalgoaaGreat
open Go Go.Vc
attribute [local irreducible] Tryz.prog
theorem idx_own {sz g n c j : Nat} {k : IntKind} (h : j < n) : indexAddrV (.slice sz) (.slice (some ⟨g, 0, none⟩) n c) (.int k (j : Int)) = some (.pointer (some ⟨g, j * sz, none⟩)) := by
  have e : indexAddrV (.slice sz) (.slice (some ⟨g, 0, none⟩) n c) (.int k (j : Int)) = (if j < n then (plus ⟨g, 0, none⟩ (j * sz)).map fun a => Value.pointer (some a) else none) := rfl
  rw [e, if_pos h]
  simp [plus]
theorem wval_set {os : List Nat} {j o o' : Nat} (h : os[j]? = some o) : wval (os.set j o') + 4294967296 ^ j * o = wval os + 4294967296 ^ j * o' := by
  induction os generalizing j with
  | nil => simp at h
  | cons x r ih =>
    cases j with
    | zero => simp at h; subst h; simp [wval]; omega
    | succ j =>
      simp only [List.getElem?_cons_succ] at h
      have := ih h
      simp only [List.set_cons_succ, wval, Nat.pow_succ]
      rw [Nat.mul_comm (4294967296 ^ j) 4294967296, Nat.mul_assoc, Nat.mul_assoc]
      omega
theorem Dig_set {os : List Nat} {j o : Nat} (h : Dig os) (ho : o < 4294967296) : Dig (os.set j o) := by
  intro x hx
  rcases List.mem_or_eq_of_mem_set hx with h1 | h1
  · exact h x h1
  · subst h1; exact ho
theorem u32s_set (os : List Nat) (j o : Nat) : (u32s os).set j (.int .u32 (o : Nat)) = u32s (os.set j o) := by simp [u32s, List.map_set]
theorem wval_replicate (n : Nat) : wval (List.replicate n 0) = 0 := by
  induction n with
  | zero => rfl
  | succ n ih => simp [List.replicate_succ, wval, ih]
theorem rep_u32 (n : Nat) : rep n [.int .u32 0] = u32s (List.replicate n 0) := by
  simp [rep, u32s]
theorem u64_of_u32 {x : Nat} (hx : x < 4294967296) : convV (.int .u64) (.int .u32 (x : Nat)) = some (.int .u64 (x : Nat)) := by
  show some (Value.int .u64 (IntKind.u64.wrap (x : Nat))) = _
  rw [wrap_u64 (by omega)]
theorem blk_repW {q : Nat → TypeId → Prop} {w : World} {g n : Nat} {ws : List Nat} (h : Blk w g 199 (u32s ws)) (hl : ws.length = n) (hn : n ≤ 1099511627776) (hd : Dig ws) (hq : q g 199) : RepW q w (.slice (some ⟨g, 0, none⟩) n n) ws := by
  subst hl
  exact ⟨⟨⟨by simp [u32s_length], hn⟩, .inr ⟨g, 0, _, rfl, Nat.le_refl _, hq, _, _, h, fun j u hu => by simpa using hu⟩⟩, hd⟩
theorem c156 {p q : Nat → TypeId → Prop} {w : World} {a b : Value} {xs ys : List Nat} (ha : RepW p w a xs) (hb : RepW p w b ys) (hq : Nw q w) (hn : xs.length + ys.length < 1099511627776) :
    CallP CC 156 [a, b] w fun r w' => Grow w w' ∧ ∃ ws, RepW q w' r ws ∧ ws.length = xs.length + ys.length ∧ wval ws = wval xs * wval ys := by
  apply call156
  have ha0 := RepW.old ha
  have hb0 := RepW.old hb
  refine px ha.1.len (px hb.1.len (pi (x := ((xs.length + ys.length : Nat) : Int)) (by show some _ = some _; rw [Int.natCast_add]) (by omega) ?_))
  refine MakeP.mk (C := CC) sl26 ti199 rfl (by decide) (by omega) (by simp only [maxLen]; omega) fun g w1 hg1 hlt hlt' hb1 => ?_
  rw [rep_u32] at hb1
  refine px ha.1.len ?_
  -- the loop over the words of a
  refine ⟨fun v w' => ∃ i os, v = .int .i64 ((i : Nat) : Int) ∧ i ≤ xs.length ∧ Zone w.heap.size (fun k _ => k ≠ g) w1 w' ∧ Blk w' g 199 (u32s os) ∧ Dig os ∧ os.length = xs.length + ys.length ∧ (∀ j, i + ys.length ≤ j → j < os.length → os[j]? = some 0) ∧ wval os = pre xs i * wval ys,
    fun v _ => xs.length - (vint v).toNat, ⟨0, _, rfl, Nat.zero_le _, Zone.refl _, hb1, fun x hx => by have := List.eq_of_mem_replicate hx; omega, by simp, fun j _ hj => by rw [List.getElem?_replicate, if_pos (by simpa using hj)], by rw [wval_replicate]; simp [pre]⟩, ?_⟩
  rintro _ - w2 ⟨i, os, rfl, hi, hz2, hbk, hd, hl, hzero, hval⟩
  have ha2 : RepW (fun k _ => k < w.heap.size) w2 a xs := ⟨(ha0.grow hg1).1.zone hz2 fun k hk => .inl hk, ha.2⟩
  have hb2 : RepW (fun k _ => k < w.heap.size) w2 b ys := ⟨(hb0.grow hg1).1.zone hz2 fun k hk => .inl hk, hb.2⟩
  refine px rfl (cD (fun h1 => ?_) (fun h1 => ?_))
  · have h1' : i < xs.length := by omega
    have hx : xs[i]? = some xs[i] := List.getElem?_eq_getElem h1'
    have hxd : xs.getD i 0 = xs[i] := by simp [List.getD_eq_getElem?_getD, hx]
    have hx4 := ha.2 xs[i] (List.getElem_mem h1')
    generalize xs[i] = x at *
    obtain ⟨ad, had⟩ := ha.1.idx (k := .i64) h1'
    refine px had (Sli.load1 (C := CC) ha2.1 ti199 had (u32s_get hx) (px hb.1.len ?_))
    refine ⟨fun cv kv w' => ∃ c k os', cv = .int .u64 ((c : Nat) : Int) ∧ kv = .int .i64 ((k : Nat) : Int) ∧ k ≤ ys.length ∧ c < 4294967296 ∧ Zone w.heap.size (fun k _ => k ≠ g) w1 w' ∧ Blk w' g 199 (u32s os') ∧ Dig os' ∧ os'.length = xs.length + ys.length ∧
        (∀ j, i + ys.length ≤ j → j < os'.length → os'[j]? = some 0) ∧ wval os' + 4294967296 ^ (i + k) * c = pre xs i * wval ys + 4294967296 ^ i * (x * pre ys k),
      fun _ kv _ => ys.length - (vint kv).toNat, ⟨0, 0, os, rfl, rfl, Nat.zero_le _, by decide, hz2, hbk, hd, hl, hzero, by simp [pre, hval]⟩, ?_⟩
    rintro _ _ - w3 ⟨c, k, os', rfl, rfl, hk, hc, hz3, hbk3, hd3, hl3, hzero3, hval3⟩
    have hb3 : RepW (fun k _ => k < w.heap.size) w3 b ys := ⟨(hb0.grow hg1).1.zone hz3 fun k hk => .inl hk, hb.2⟩
    refine px rfl (cD (fun h2 => ?_) (fun h2 => ?_))
    · have h2' : k < ys.length := by omega
      have hy : ys[k]? = some ys[k] := List.getElem?_eq_getElem h2'
      have hyd : ys.getD k 0 = ys[k] := by simp [List.getD_eq_getElem?_getD, hy]
      have hy4 := hb.2 ys[k] (List.getElem_mem h2')
      generalize ys[k] = y at *
      have hj : i + k < os'.length := by omega
      have ho : os'[i + k]? = some os'[i + k] := List.getElem?_eq_getElem hj
      have ho4 := hd3 os'[i + k] (List.getElem_mem hj)
      generalize os'[i + k] = o at *
      have hxy : x * y ≤ 4294967295 * 4294967295 := Nat.mul_le_mul (by omega) (by omega)
      obtain ⟨ad2, had2⟩ := hb.1.idx (k := .i64) h2'
      refine px had2 (Sli.load1 (C := CC) hb3.1 ti199 had2 (u32s_get hy) (px (u64_of_u32 hx4) (px (u64_of_u32 hy4) ?_)))
      refine pu (x := ((x * y : Nat) : Int)) (by show some _ = some _; rw [Int.natCast_mul]) (by omega) ?_
      refine pi (x := ((i + k : Nat) : Int)) (by show some _ = some _; rw [Int.natCast_add]) (by omega) ?_
      have hadr := idx_own (sz := 1) (g := g) (c := xs.length + ys.length) (k := .i64) (show i + k < xs.length + ys.length by omega)
      rw [Nat.mul_one] at hadr
      refine px hadr (LoadP.fld hbk3 ti199 (u32s_get ho) (px (u64_of_u32 ho4) ?_))
      refine pu (x := ((x * y + o : Nat) : Int)) (by show some _ = some _; rw [Int.natCast_add]) (by omega) ?_
      refine pu (x := ((c + (x * y + o) : Nat) : Int)) (by show some _ = some _; rw [Int.natCast_add c]) (by omega) ?_
      refine pi (x := ((i + k : Nat) : Int)) (by show some _ = some _; rw [Int.natCast_add]) (by omega) ?_
      generalize hs : c + (x * y + o) = s at *
      refine pwm rfl (px rfl (px hadr ?_))
      have e1 : ((s : Nat) : Int) % 4294967296 = ((s % 4294967296 : Nat) : Int) := by omega
      have e2 : ((s : Nat) : Int).fdiv (2 ^ min (32 : Int).toNat IntKind.u64.bits) = (s / 4294967296 : Nat) := by
        show ((s : Nat) : Int).fdiv 4294967296 = _
        rw [Int.fdiv_eq_ediv_of_nonneg _ (by omega)]; omega
      rw [e1, e2]
      refine StoreP.one ti199 hbk3 rfl (by rw [u32s_length]; exact hj) fun w4 hu4 hb4 => ?_
      rw [u32s_set] at hb4
      refine pi (x := ((k + 1 : Nat) : Int)) rfl (by omega) ⟨⟨s / 4294967296, k + 1, _, rfl, rfl, by omega, by omega, hz3.trans (Zone.of hu4 hbk3 hlt (by simp)), hb4, Dig_set hd3 (Nat.mod_lt _ (by decide)), by simpa using hl3, ?_, ?_⟩, ?_⟩
      · intro j hj1 hj2
        rw [List.getElem?_set_ne (by omega)]
        exact hzero3 j hj1 (by simpa using hj2)
      · have hw := wval_set (o' := s % 4294967296) ho
        have hdm := Nat.div_add_mod s 4294967296
        have e3 : 4294967296 ^ (i + (k + 1)) * (s / 4294967296) + 4294967296 ^ (i + k) * (s % 4294967296) = 4294967296 ^ (i + k) * (c + (x * y + o)) := by
          rw [hs, ← Nat.add_assoc, Nat.pow_succ, Nat.mul_assoc, ← Nat.mul_add, hdm]
        have e4 : pre ys (k + 1) = pre ys k + 4294967296 ^ k * y := by simp only [pre, hyd]
        have e5 : 4294967296 ^ i * (x * (pre ys k + 4294967296 ^ k * y)) = 4294967296 ^ i * (x * pre ys k) + 4294967296 ^ (i + k) * (x * y) := by
          rw [Nat.mul_add, Nat.mul_add, Nat.pow_add]
          congr 1
          rw [← Nat.mul_assoc x, Nat.mul_comm x, Nat.mul_assoc, Nat.mul_assoc]
        rw [e4, e5]
        rw [Nat.mul_add, Nat.mul_add] at e3
        omega
      · simp only [vint_int]; omega
    · have hk' : k = ys.length := by omega
      subst hk'
      refine px hb.1.len ?_
      refine pi (x := ((i + ys.length : Nat) : Int)) (by show some _ = some _; rw [Int.natCast_add]) (by omega) ?_
      refine pwm rfl ?_
      have e1 : ((c : Nat) : Int) % 4294967296 = ((c : Nat) : Int) := by omega
      rw [e1]
      have hadr := idx_own (sz := 1) (g := g) (c := xs.length + ys.length) (k := .i64) (show i + ys.length < xs.length + ys.length by omega)
      rw [Nat.mul_one] at hadr
      have ho := hzero3 (i + ys.length) (Nat.le_refl _) (by omega)
      refine px hadr (StoreP.one ti199 hbk3 rfl (by rw [u32s_length]; omega) fun w4 hu4 hb4 => ?_)
      rw [u32s_set] at hb4
      refine pi (x := ((i + 1 : Nat) : Int)) rfl (by omega) ⟨⟨i + 1, _, rfl, by omega, hz3.trans (Zone.of hu4 hbk3 hlt (by simp)), hb4, Dig_set hd3 hc, by simpa using hl3, ?_, ?_⟩, ?_⟩
      · intro j hj1 hj2
        rw [List.getElem?_set_ne (by omega)]
        exact hzero3 j (by omega) (by simpa using hj2)
      · have hw := wval_set (o' := c) ho
        rw [pre_eq ys _ (Nat.le_refl _)] at hval3
        have e4 : pre xs (i + 1) * wval ys = pre xs i * wval ys + 4294967296 ^ i * (x * wval ys) := by
          simp only [pre, hxd, Nat.add_mul, Nat.mul_assoc]
        rw [e4]; omega
      · simp only [vint_int]; omega
  · have : i = xs.length := by omega
    subst this
    refine ⟨Zone.new hg1 hz2 (Nat.le_refl _), os, blk_repW hbk hl (by omega) hd (hq g hlt), hl, ?_⟩
    rw [hval, pre_eq xs _ (Nat.le_refl _)]
theorem quo_u64 {a n : Nat} (hn : 0 < n) (ha : a < 18446744073709551616) : binV (.int .u64) .quo (.int .u64 (a : Nat)) (.int .u64 (n : Nat)) = some (.int .u64 ((a / n : Nat) : Int)) := by
  have h0 : ((n : Nat) : Int) ≠ 0 := by omega
  have hle : a / n ≤ a := Nat.div_le_self a n
  simp only [binV, intV, if_true, h0, if_false]
  rw [← Int.ofNat_tdiv a n, wrap_u64 ⟨Int.natCast_nonneg _, by omega⟩]
theorem rem_u64 {a n : Nat} (hn : 0 < n) : binV (.int .u64) .rem (.int .u64 (a : Nat)) (.int .u64 (n : Nat)) = some (.int .u64 ((a % n : Nat) : Int)) := by
  have h0 : ((n : Nat) : Int) ≠ 0 := by omega
  simp only [binV, intV, if_true, h0, if_false]
  rw [Int.ofNat_tmod a n]
theorem shl32_u64 {a : Nat} (ha : a < 4294967296) : binV (.int .u64) .shl (.int .u64 (a : Nat)) (.int .u64 32) = some (.int .u64 ((a * 4294967296 : Nat) : Int)) := by
  show some (Value.int .u64 (IntKind.u64.wrap (((a : Nat) : Int) * 4294967296))) = _
  rw [wrap_u64 (by omega)]; congr 2
theorem drop_set_step {os : List Nat} {k d : Nat} (hk : k < os.length) : (os.set k d).drop k = d :: os.drop (k + 1) := by
  rw [List.drop_set, if_neg (by omega), Nat.sub_self, List.drop_eq_getElem_cons hk]; rfl
theorem div_step {x h n : Nat} (hn : 0 < n) : (x + 4294967296 * h) / n = ((h % n) * 4294967296 + x) / n + 4294967296 * (h / n) ∧ (x + 4294967296 * h) % n = ((h % n) * 4294967296 + x) % n := by
  have e : x + 4294967296 * h = ((h % n) * 4294967296 + x) + n * (4294967296 * (h / n)) := by
    have := Nat.div_add_mod h n
    have e2 : 4294967296 * h = 4294967296 * (n * (h / n)) + 4294967296 * (h % n) := by rw [← Nat.mul_add, this]
    have e3 : n * (4294967296 * (h / n)) = 4294967296 * (n * (h / n)) := by rw [← Nat.mul_assoc, Nat.mul_comm n, Nat.mul_assoc]
    omega
  rw [e, Nat.add_mul_div_left _ _ hn, Nat.add_mul_mod_self_left]
  exact ⟨rfl, rfl⟩
theorem c231 {p q : Nat → TypeId → Prop} {w : World} {a : Value} {xs : List Nat} {n : Nat} (ha : RepW p w a xs) (hq : Nw q w) (hn : 0 < n) (hn' : n < 4294967296) :
    CallP CC 231 [a, .int .u64 (n : Nat)] w fun r w' => Grow w w' ∧ ∃ s ws, r = .tuple #[s, .int .u64 ((wval xs % n : Nat) : Int)] ∧ RepW q w' s ws ∧ Trim ws ∧ wval ws = wval xs / n := by
  apply call231
  have ha0 := RepW.old ha
  have hlim := ha.lim
  refine px ha.1.len (MakeP.mk (C := CC) sl26 ti199 rfl (by decide) (by omega) (by simp only [maxLen]; omega) fun g w1 hg1 hlt hlt' hb1 => ?_)
  rw [rep_u32] at hb1
  refine px ha.1.len ?_
  refine ⟨fun rv v w' => ∃ k os, v = .int .i64 ((k : Nat) : Int) ∧ k ≤ xs.length ∧ rv = .int .u64 ((wval (xs.drop (xs.length - k)) % n : Nat) : Int) ∧ Zone w.heap.size (fun k _ => k ≠ g) w1 w' ∧ Blk w' g 199 (u32s os) ∧ Dig os ∧ os.length = xs.length ∧ wval (os.drop (xs.length - k)) = wval (xs.drop (xs.length - k)) / n,
    fun _ v _ => xs.length - (vint v).toNat, ⟨0, _, rfl, Nat.zero_le _, by simp [wval], Zone.refl _, hb1, fun x hx => by have := List.eq_of_mem_replicate hx; omega, by simp, by simp [wval]⟩, ?_⟩
  rintro _ _ - w2 ⟨k, os, rfl, hk, rfl, hz2, hbk, hd, hl, hval⟩
  have ha2 : RepW (fun k _ => k < w.heap.size) w2 a xs := ⟨(ha0.grow hg1).1.zone hz2 fun k hk => .inl hk, ha.2⟩
  refine px rfl (cD (fun h1 => ?_) (fun h1 => ?_))
  · have h1' : k < xs.length := by omega
    generalize hat : xs.length - 1 - k = at_
    have hat' : at_ < xs.length := by omega
    have hx : xs[at_]? = some xs[at_] := List.getElem?_eq_getElem hat'
    have hx4 := ha.2 xs[at_] (List.getElem_mem hat')
    have hdx : xs.drop at_ = xs[at_] :: xs.drop (at_ + 1) := List.drop_eq_getElem_cons hat'
    generalize xs[at_] = x at *
    have ek : xs.length - k = at_ + 1 := by omega
    have ek1 : xs.length - (k + 1) = at_ := by omega
    rw [ek] at hval ⊢
    generalize hh : wval (xs.drop (at_ + 1)) = hi at *
    have hmod := Nat.mod_lt hi hn
    obtain ⟨ad, had⟩ := ha.1.idx (k := .i64) hat'
    refine px ha.1.len (pi rfl (by omega) (pi (x := ((at_ : Nat) : Int)) (by rw [← hat]; show some _ = some _; congr 3; omega) (by omega) ?_))
    refine px (shl32_u64 (by omega)) (px had (Sli.load1 (C := CC) ha2.1 ti199 had (u32s_get hx) (px (u64_of_u32 hx4) ?_)))
    have hs64 : (hi % n) * 4294967296 + x < 18446744073709551616 := by omega
    refine pu (x := (((hi % n) * 4294967296 + x : Nat) : Int)) (by rw [Int.natCast_add]; rfl) (by omega) ?_
    obtain ⟨hd1, hd2⟩ := div_step (x := x) (h := hi) hn
    generalize hs : (hi % n) * 4294967296 + x = s at *
    have hq1 := quo_u64 hn hs64
    have hr1 := rem_u64 (a := s) hn
    have hqd : s / n < 4294967296 := by
      rw [Nat.div_lt_iff_lt_mul hn, ← hs]
      have : (hi % n + 1) * 4294967296 ≤ n * 4294967296 := Nat.mul_le_mul_right _ hmod
      omega
    have hadr := idx_own (sz := 1) (g := g) (c := xs.length) (k := .i64) hat'
    rw [Nat.mul_one] at hadr
    have hcv : convV (.int .u32) (.int .u64 ((s / n : Nat) : Int)) = some (.int .u32 ((s / n : Nat) : Int)) := by
      show some (Value.int .u32 (IntKind.u32.wrap ((s / n : Nat) : Int))) = _
      rw [wrap_u32 ⟨Int.natCast_nonneg _, by omega⟩]
    simp only [ty26, hq1, hr1, hadr, hcv, Option.getD_some, Option.some.injEq, exists_eq', implies_true, true_and]
    refine ⟨Mod g 199, fun l w => match l with | [] => Blk w g 199 (u32s os) | _ => Blk w g 199 (u32s (os.set at_ (s / n))), Mod.grow, Mod.trans, fun w' h => hbk.grow h, fun _ _ => True, ?_, ?_⟩
    · intro w3 hm hL
      refine StoreP.one ti199 hL rfl (by rw [u32s_length]; omega) fun w4 hu hb4 => ?_
      rw [u32s_set] at hb4
      exact ⟨Mod.of hu hL, fun _ _ => trivial, fun w5 hg => hb4.grow hg⟩
    · intro _ _ w3 hm _ hL
      refine pi (x := ((k + 1 : Nat) : Int)) rfl (by omega) ⟨⟨k + 1, _, rfl, by omega, ?_, hz2.trans ⟨hm.upd.mono fun k hk => by subst hk; exact hlt, hm.kp.mono fun k' e hk => .inr (hk.elim (by omega) id)⟩, hL, Dig_set hd hqd, by simpa using hl, ?_⟩, ?_⟩
      · rw [ek1, hdx]; simp only [wval]; rw [hh, hd2]
      · rw [ek1, drop_set_step (by omega), hdx]; simp only [wval]; rw [hh, hval, hd1]
      · simp only [vint_int]; omega
  · have : k = xs.length := by omega
    subst this
    simp only [Nat.sub_self, List.drop_zero] at hval ⊢
    have hr : RepW q w2 (.slice (some ⟨g, 0, none⟩) xs.length xs.length) os := blk_repW hbk hl (by omega) hd (hq g hlt)
    refine (c157 hr).mono ?_
    rintro s w3 ⟨hg3, hs⟩
    exact ⟨(Zone.new hg1 hz2 (Nat.le_refl _)).trans hg3, s, trimL os, rfl, hs, trimL_trim os, by rw [wval_trimL, hval]⟩
theorem litW {p : Nat → TypeId → Prop} {w : World} {x : Nat} (hx : x < 4294967296) (hp : Nw p w) {k : Value → World → Prop}
    (hk : ∀ v w', Grow w w' → RepW p w' v [x] → Vc.Own w' w.heap.size 199 1 v 1 (u32s [x]) → k v w') : LitP CC 26 1 [(0, .int .u32 (x : Nat))] w k := by
  refine LitP.mk (C := CC) sl26 ti199 rfl (by decide) (by decide) (cs := u32s [x]) rfl fun g w1 hg1 hlt hlt' hb => ?_
  refine hk _ _ hg1 (blk_repW hb rfl (by decide) (fun y hy => by simp at hy; omega) (hp g hlt)) (Vc.Own.lit hb rfl hlt (by decide))
theorem Nw.zone {p : Nat → TypeId → Prop} {base : Nat} {q : Nat → TypeId → Prop} {w w' : World} (h : Nw p w) (hz : Zone base q w w') : Nw p w' := fun k hk => h k (Nat.le_trans hz.size hk)
theorem conv_u32 {x : Nat} (hx : x < 4294967296) : convV (.int .u32) (.int .u64 (x : Nat)) = some (.int .u32 (x : Nat)) := by
  show some (Value.int .u32 (IntKind.u32.wrap (x : Nat))) = _
  rw [wrap_u32 (by omega)]
theorem c221 {p q : Nat → TypeId → Prop} {w : World} {a b : Value} {xs ys : List Nat} (ha : RepW p w a xs) (hb : RepW p w b ys) (hq : Nw q w) (ty : Trim ys) (hy0 : ys ≠ []) (hn : xs.length + ys.length + 2 < 1099511627776) :
    CallP CC 221 [a, b] w fun r w' => Grow w w' ∧ ∃ s1 s2 q1 r1, r = .tuple #[s1, s2] ∧ RepW q w' s1 q1 ∧ RepW q w' s2 r1 ∧ Trim q1 ∧ Trim r1 ∧ wval q1 = wval xs / wval ys ∧ wval r1 = wval xs % wval ys := by
  apply call221
  have ha0 := RepW.old ha
  have hb0 := RepW.old hb
  have hypos := ty.pos hy0
  refine px hb.1.len (px rfl (cB (fun h => ?_) (fun h => ?_)))
  · -- one word
    have hl1 : ys.length = 1 := by have := beq_iff_eq.1 h; omega
    obtain ⟨y, rfl⟩ : ∃ y, ys = [y] := List.length_eq_one_iff.1 hl1
    have hy4 := hb.2 y (by simp)
    have hv : wval [y] = y := by simp [wval]
    rw [hv] at hypos
    obtain ⟨ad, had⟩ := hb.1.idx (k := .i64) (i := 0) (by simp)
    refine px had (Sli.load1 (C := CC) hb.1 ti199 (i := 0) had (u32s_get rfl) (px (u64_of_u32 hy4) ?_))
    refine (c231 ha hq hypos hy4).mono ?_
    rintro _ w2 ⟨hg2, s, ws, rfl, hs, ht, hval⟩
    have hmod := Nat.mod_lt (wval xs) hypos
    refine px rfl (px rfl (px (conv_u32 (by omega)) (litW (by omega) (hq.grow hg2) fun v w3 hg3 hr3 _ => ?_)))
    refine (c157 hr3).mono ?_
    rintro t w4 ⟨hg4, ht4⟩
    rw [hv]
    refine ⟨(hg2.trans hg3).trans hg4, s, t, ws, _, rfl, (hs.grow hg3).grow hg4, ht4, ht, trimL_trim _, hval, ?_⟩
    rw [wval_trimL]; simp [wval]
  · have hl2 : ys.length ≠ 1 := by intro e; simp [e] at h
    refine px ha.1.len (MakeP.mk (C := CC) sl26 ti199 rfl (by decide) (by omega) (by simp only [maxLen]; omega) fun g w1 hg1 hlt hlt' hb1 => ?_)
    rw [rep_u32] at hb1
    refine px ha.1.len ?_
    refine ⟨fun rv v w' => ∃ k os rs, v = .int .i64 ((k : Nat) : Int) ∧ k ≤ xs.length ∧ RepW (fun k _ => k ≠ g ∧ w.heap.size ≤ k) w' rv rs ∧ Trim rs ∧ wval rs = wval (xs.drop (xs.length - k)) % wval ys ∧ Zone w.heap.size (fun k _ => k ≠ g) w1 w' ∧ Blk w' g 199 (u32s os) ∧ Dig os ∧ os.length = xs.length ∧ wval (os.drop (xs.length - k)) = wval (xs.drop (xs.length - k)) / wval ys,
      fun _ v _ => xs.length - (vint v).toNat, ⟨0, _, [], rfl, Nat.zero_le _, RepW.nil, rfl, by simp [wval], Zone.refl _, hb1, fun x hx => by have := List.eq_of_mem_replicate hx; omega, by simp, by simp [wval]⟩, ?_⟩
    rintro rv _ - w2 ⟨k, os, rs, rfl, hk, hr2, tr, hrv, hz2, hbk, hd, hl, hval⟩
    have ha2 : RepW (fun k _ => k < w.heap.size) w2 a xs := ⟨(ha0.grow hg1).1.zone hz2 fun k hk => .inl hk, ha.2⟩
    have hglt : g < w2.heap.size := hbk.lt
    have hs02 : w.heap.size ≤ w2.heap.size := Nat.le_trans hg1.size hz2.size
    have hnw2 : Nw (fun k _ => k ≠ g) w2 := fun k hk => by omega
    refine px rfl (cD (fun h1 => ?_) (fun h1 => ?_))
    · have h1' : k < xs.length := by omega
      generalize hat : xs.length - 1 - k = at_
      have hat' : at_ < xs.length := by omega
      have hx : xs[at_]? = some xs[at_] := List.getElem?_eq_getElem hat'
      have hx4 := ha.2 xs[at_] (List.getElem_mem hat')
      have hdx : xs.drop at_ = xs[at_] :: xs.drop (at_ + 1) := List.drop_eq_getElem_cons hat'
      generalize xs[at_] = x at *
      have ek : xs.length - k = at_ + 1 := by omega
      have ek1 : xs.length - (k + 1) = at_ := by omega
      rw [ek] at hval hrv
      generalize hh : wval (xs.drop (at_ + 1)) = hi at *
      generalize hY : wval ys = Y at *
      have hmod := Nat.mod_lt hi hypos
      obtain ⟨ad, had⟩ := ha.1.idx (k := .i64) hat'
      refine px ha.1.len (pi rfl (by omega) (pi (x := ((at_ : Nat) : Int)) (by rw [← hat]; show some _ = some _; congr 3; omega) (by omega) ?_))
      refine px had (Sli.load1 (C := CC) ha2.1 ti199 had (u32s_get hx) (litW hx4 hnw2 fun v w3 hg3 _ ho3 => ?_))
      have hrl : rs.length ≤ ys.length := tr.le_of_lt (by
        have := wval_lt hb.2
        rw [hY] at this; omega)
      refine AppendP.own (C := CC) sl26 ti199 rfl (by decide) ho3 (hr2.grow hg3).1 (u32s_one _) (by omega) (by simp only [maxLen]; omega) hg3.size fun v' w4 ho4 hu4 hf4 => ?_
      have hz4 : Zone w2.heap.size (fun _ _ => False) w3 w4 := Zone.own hu4 ho3 (by simp)
      have hg24 : Grow w2 w4 := Zone.new hg3 hz4 (Nat.le_refl _)
      have e4 : u32s [x] ++ u32s rs = u32s (x :: rs) := by simp [u32s]
      rw [e4] at ho4
      have hr4 : RepW (fun k _ => k ≠ g ∧ w.heap.size ≤ k) w4 v' (x :: rs) := own_repW ho4 (by simp; omega) (by omega) (fun y hy => by
        rcases List.mem_cons.1 hy with rfl | hy
        · exact hx4
        · exact hr2.2 y hy) (fun k hk => ⟨by omega, by omega⟩)
      refine (c157 hr4).mono ?_
      rintro r5 w5 ⟨hg5, hr5⟩
      have hg25 := hg24.trans hg5
      generalize hR : trimL (x :: rs) = R at *
      have tR : Trim R := hR ▸ trimL_trim _
      have hRv : wval R = x + 4294967296 * (hi % Y) := by rw [← hR, wval_trimL]; simp only [wval]; rw [hrv]
      have hRl : R.length ≤ ys.length + 1 := by
        have := trimL_length_le (x :: rs)
        rw [hR] at this; simp at this; omega
      obtain ⟨hd1, hd2⟩ := div_step (x := x) (h := hi) hypos
      have hRv' : wval R = (hi % Y) * 4294967296 + x := by omega
      rw [← hRv'] at hd1 hd2
      have hz25 : Zone w.heap.size (fun k _ => k ≠ g) w1 w5 := hz2.trans (Zone.grow hg25)
      have hbk5 := hbk.grow hg25
      have hRY : wval R < Y * 4294967296 := by
        have : (hi % Y + 1) * 4294967296 ≤ Y * 4294967296 := Nat.mul_le_mul_right _ hmod
        omega
      -- the search for the word, from 'top' down
      have search : ∀ top : Nat, 0 < top → top ≤ 4294967296 → wval R < Y * top →
          ∃ (I_1 : Value → Value → World → Prop) (μ_1 : Value → Value → World → Nat), I_1 (.int .u64 0) (.int .u64 (top : Nat)) w5 ∧
          ∀ y10 : Value, ∀ y11 : Value, ∀ (h_1 : Nat → Value) (w_11 : World), I_1 y10 y11 w_11 →
            ∃ x58, binV (.int .u64) .sub y11 y10 = some x58 ∧
            ∃ x59, binV (.int .u64) .gtr x58 (.int .u64 1) = some x59 ∧
            CondP x59 (
              ∃ x62, binV (.int .u64) .add y10 y11 = some x62 ∧
              ∃ x63, binV (.int .u64) .quo x62 (.int .u64 2) = some x63 ∧
              ∃ x66, convV (.int .u32) x63 = some x66 ∧
              LitP CC 26 1 [(0, x66)] w_11 fun x67 w_12 =>
              CallP CC 156 [b, x67] w_12 fun x68 w_13 =>
              CallP CC 157 [x68] w_13 fun x69 w_14 =>
              CallP CC 210 [x69, r5] w_14 fun x71 w_15 =>
              ∃ x72, binV (.int .i64) .leq x71 (.int .i64 0) = some x72 ∧
              CondP x72 (
                I_1 x63 y11 w_15 ∧ μ_1 x63 y11 w_15 < μ_1 y10 y11 w_11) (
                I_1 y10 x63 w_15 ∧ μ_1 y10 x63 w_15 < μ_1 y10 y11 w_11)) (
              ∃ x78, convV (.int .u32) y10 = some x78 ∧
              ∃ x79, indexAddrV (tyOf tyTab 26) (.slice (some ⟨g, 0, none⟩) xs.length xs.length) (.int .i64 (at_ : Nat)) = some x79 ∧
              StoreP CC 199 x79 x78 w_11 fun w_16 =>
              ∃ x83, convV (.int .u32) y10 = some x83 ∧
              LitP CC 26 1 [(0, x83)] w_16 fun x84 w_17 =>
              CallP CC 156 [b, x84] w_17 fun x85 w_18 =>
              CallP CC 157 [x85] w_18 fun x86 w_19 =>
              CallP CC 211 [r5, x86] w_19 fun x87 w_20 =>
              CallP CC 157 [x87] w_20 fun x88 w_21 =>
              ∃ x89, binV (.int .i64) .add (.int .i64 (k : Nat)) (.int .i64 1) = some x89 ∧
              (∃ k os rs, x89 = .int .i64 ((k : Nat) : Int) ∧ k ≤ xs.length ∧ RepW (fun k _ => k ≠ g ∧ w.heap.size ≤ k) w_21 x88 rs ∧ Trim rs ∧ wval rs = wval (xs.drop (xs.length - k)) % Y ∧ Zone w.heap.size (fun k _ => k ≠ g) w1 w_21 ∧ Blk w_21 g 199 (u32s os) ∧ Dig os ∧ os.length = xs.length ∧ wval (os.drop (xs.length - k)) = wval (xs.drop (xs.length - k)) / Y) ∧
                xs.length - (vint x89).toNat < xs.length - (vint (.int .i64 (k : Nat))).toNat) := by
        intro top ht0 ht1 hRt
        refine ⟨fun lv hv w' => ∃ lo hi', lv = .int .u64 ((lo : Nat) : Int) ∧ hv = .int .u64 ((hi' : Nat) : Int) ∧ lo < hi' ∧ hi' ≤ 4294967296 ∧ Y * lo ≤ wval R ∧ wval R < Y * hi' ∧ Grow w5 w',
          fun lv hv _ => (vint hv).toNat - (vint lv).toNat, ⟨0, top, rfl, rfl, ht0, ht1, by simp, hRt, Grow.refl _⟩, ?_⟩
        rintro _ _ - w6 ⟨lo, hi', rfl, rfl, hlh, hh4, hlo, hhi, hg6⟩
        have hnw6 : Nw (fun k _ => k ≠ g) w6 := fun k hk => by
          have := hg6.size; have := hg25.size
          intro e; subst e; omega
        have hz6 := hz25.trans (Zone.grow hg6)
        have hb6 : RepW (fun k _ => k ≠ g) w6 b ys := RepW.mono (p := fun k _ => k < w.heap.size) ⟨(hb0.grow hg1).1.zone hz6 fun k hk => .inl hk, hb.2⟩ fun k _ hk => by omega
        have hr6 := hr5.grow hg6
        refine pu (x := ((hi' - lo : Nat) : Int)) (by show some _ = some _; congr 3; omega) (by omega) (px rfl (cD (fun h2 => ?_) (fun h2 => ?_)))
        · refine pu (x := ((lo + hi' : Nat) : Int)) (by show some _ = some _; rw [Int.natCast_add]) (by omega) ?_
          generalize hm : (lo + hi') / 2 = mid
          have hmid : lo < mid ∧ mid < hi' := by omega
          refine px (v := .int .u64 (mid : Nat)) (by rw [← hm]; exact quo_u64 (n := 2) (by decide) (by omega)) (px (conv_u32 (by omega)) (litW (by omega) hnw6 fun v w7 hg7 hr7 _ => ?_))
          refine (c156 (q := fun _ _ => True) (hb6.grow hg7) hr7 (fun _ _ => trivial) (by simp; omega)).mono ?_
          rintro v8 w8 ⟨hg8, ws8, hr8, hl8, hv8⟩
          refine (c157 hr8).mono ?_
          rintro v9 w9 ⟨hg9, hr9⟩
          have hr9' : RepW (fun k _ => True) w9 r5 R := RepW.mono (((hr6.grow hg7).grow hg8).grow hg9) fun _ _ _ => trivial
          refine (c210 hr9 hr9' (trimL_trim _) tR).mono ?_
          rintro _ w10 ⟨hg10, d, rfl, hd0, hd1'⟩
          rw [wval_trimL, hv8] at hd0 hd1'
          have hw1 : wval [mid] = mid := by simp [wval]
          rw [hw1, hY] at hd0 hd1'
          have hg610 := ((hg7.trans hg8).trans hg9).trans hg10
          refine px rfl (cD (fun h3 => ?_) (fun h3 => ?_))
          · refine ⟨⟨mid, hi', rfl, rfl, by omega, hh4, ?_, hhi, hg6.trans hg610⟩, by simp only [vint_int]; omega⟩
            have : ¬ wval R < Y * mid := fun h => by have := hd1'.2 h; omega
            omega
          · refine ⟨⟨lo, mid, rfl, rfl, by omega, by omega, hlo, ?_, hg6.trans hg610⟩, by simp only [vint_int]; omega⟩
            exact hd1'.1 (by omega)
        · have hhl : hi' = lo + 1 := by omega
          subst hhl
          have hlo4 : lo < 4294967296 := by omega
          have hdiv : wval R / Y = lo := by
            refine Nat.div_eq_of_lt_le ?_ ?_
            · rw [Nat.mul_comm]; exact hlo
            · rw [Nat.mul_comm]; exact hhi
          have hmd : wval R % Y = wval R - Y * lo := by
            have := Nat.div_add_mod (wval R) Y
            rw [hdiv] at this; omega
          have hadr := idx_own (sz := 1) (g := g) (c := xs.length) (k := .i64) hat'
          rw [Nat.mul_one] at hadr
          have hbk6 := hbk5.grow hg6
          refine px (conv_u32 hlo4) (px hadr (StoreP.one ti199 hbk6 rfl (by rw [u32s_length]; omega) fun w7 hu7 hb7 => ?_))
          rw [u32s_set] at hb7
          have hz7 : Zone w.heap.size (fun k _ => k ≠ g) w6 w7 := Zone.of hu7 hbk6 hlt (by simp)
          have hnw7 : Nw (fun k _ => k ≠ g) w7 := hnw6.zone hz7
          have hb7' : RepW (fun k _ => k ≠ g) w7 b ys := ⟨hb6.1.zone hz7 fun k hk => .inr hk, hb.2⟩
          have hr7' : RepW (fun _ _ => True) w7 r5 R := RepW.mono (p := (fun k _ => k ≠ g ∧ w.heap.size ≤ k)) ⟨hr6.1.zone hz7 fun k hk => .inr hk.1, hr6.2⟩ fun _ _ _ => trivial
          have hnwr : Nw (fun k _ => k ≠ g ∧ w.heap.size ≤ k) w7 := fun k hk => ⟨hnw7 k hk, by have := hz6.size; have := hz7.size; have := hg1.size; omega⟩
          refine px (conv_u32 hlo4) (litW hlo4 hnw7 fun v w8 hg8 hr8 _ => ?_)
          refine (c156 (q := fun k _ => k ≠ g) (hb7'.grow hg8) hr8 (hnw7.grow hg8) (by simp; omega)).mono ?_
          rintro v9 w9 ⟨hg9, ws9, hr9, hl9, hv9⟩
          refine (c157 hr9).mono ?_
          rintro v10 w10 ⟨hg10, hr10⟩
          have hg710 := (hg8.trans hg9).trans hg10
          have hw1 : wval [lo] = lo := by simp [wval]
          have hv10 : wval (trimL ws9) = Y * lo := by rw [wval_trimL, hv9, hw1, hY]
          have hl10 := trimL_length_le ws9
          simp only [List.length_cons, List.length_nil] at hl9
          refine (c211 (q := (fun k _ => k ≠ g ∧ w.heap.size ≤ k)) (hr7'.grow hg710) (RepW.mono hr10 fun _ _ _ => trivial) (hnwr.grow hg710) (by omega) (by omega)).mono ?_
          rintro v11 w11 ⟨hg11, ws11, hr11, hl11, hv11⟩
          refine (c157 hr11).mono ?_
          rintro v12 w12 ⟨hg12, hr12⟩
          have hg712 := (hg710.trans hg11).trans hg12
          refine pi (x := ((k + 1 : Nat) : Int)) rfl (by omega) ⟨⟨k + 1, os.set at_ lo, trimL ws11, rfl, by omega, hr12, trimL_trim _, ?_, hz6.trans (hz7.trans (Zone.grow hg712)), hb7.grow hg712, Dig_set hd hlo4, by simpa using hl, ?_⟩, by simp only [vint_int]; omega⟩
          · rw [wval_trimL, hv11, hv10, ek1, hdx]; simp only [wval]; rw [hh, hd2, hmd]
          · rw [ek1, drop_set_step (by omega), hdx]; simp only [wval]; rw [hh, hval, hd1, hdiv]
      refine px hr5.1.len (px hb.1.len (px rfl (cD (fun h2 => ?_) (fun h2 => ?_))))
      · refine search 1 (by decide) (by decide) ?_
        have := wval_lt_of_length_lt ty hr5.2 (by omega)
        rw [hY] at this; omega
      · exact search 4294967296 (by decide) (by decide) hRY
    · have : k = xs.length := by omega
      subst this
      simp only [Nat.sub_self, List.drop_zero] at hval hrv
      have hqn : RepW q w2 (.slice (some ⟨g, 0, none⟩) xs.length xs.length) os := blk_repW hbk hl (by omega) hd (hq g hlt)
      refine (c157 hqn).mono ?_
      rintro s w3 ⟨hg3, hs⟩
      exact ⟨(Zone.new hg1 hz2 (Nat.le_refl _)).trans hg3, s, rv, trimL os, rs, rfl, hs, RepW.mono (hr2.grow hg3) (fun k _ hk => hq k hk.2), trimL_trim _, tr, by rw [wval_trimL, hval], hrv⟩
end Go.Proofs.YtaajkcngcalgoaaGreat
namespace Go.Proofs.YtaajkcngcalgoaaGreat
open Go Go.Vc
attribute [local irreducible] Tryz.prog
theorem tailZ {q : Nat → TypeId → Prop} {w0 w : World} {gb g4 : Nat} {neg : Bool} {s v1 v2 : Value} {f : FuncId} {z : Int} (hg : Grow w0 w) (hlt : w0.heap.size ≤ g4)
    (hb4 : Blk w g4 28 [.bool false, .slice none 0 0]) (hbb : Blk w gb 28 [.bool neg, s]) (hne : gb ≠ g4)
    (hcall : ∀ w', Mod g4 28 w w' → CallP CC f [v1, v2] w' fun r w'' => Grow w' w'' ∧ ∃ ws, RepW q w'' r ws ∧ sgn neg (wval ws) = z) :
    ∃ (T : World → World → Prop) (L : List Value → World → Prop), (∀ a b, Grow a b → T a b) ∧ (∀ a b c, T a b → T b c → T a c) ∧ (∀ w', Grow w w' → L [] w') ∧
    ∃ A20 : Value → World → Prop,
    ∃ A23 : Value → World → Prop,
    ∃ A24 : Value → World → Prop,
    ∃ As6 : Value → World → Prop,
    (∀ w_17, T w w_17 → (∃ v, fieldAddrV (tyOf tyTab 28) 0 (.pointer (some ⟨gb, 0, none⟩)) = some v)) ∧
    (∀ w_18, T w w_18 → (LoadP CC 4 ((fieldAddrV (tyOf tyTab 28) 0 (.pointer (some ⟨gb, 0, none⟩))).getD undef) w_18 fun x20 w_19 => Grow w_18 w_19 ∧ ∀ w'', T w_19 w'' → A20 x20 w'')) ∧
    (∀ v20 : Value, ∀ w_20, T w w_20 → (CallP CC f [v1, v2] w_20 fun x23 w_21 => Grow w_20 w_21 ∧ ∀ w'', T w_21 w'' → A23 x23 w'')) ∧
    (∀ v20 : Value, ∀ v23 : Value, ∀ w_22, T w w_22 → A20 v20 w_22 → A23 v23 w_22 → (CallP CC 155 [v20, v23] w_22 fun x24 w_23 => Grow w_22 w_23 ∧ ∀ w'', T w_23 w'' → A24 x24 w'')) ∧
    (∀ v20 : Value, ∀ v23 : Value, ∀ v24 : Value, ∀ w_24, T w w_24 → L [] w_24 → A20 v20 w_24 → A23 v23 w_24 → A24 v24 w_24 → StoreP CC 28 (.pointer (some ⟨g4, 0, none⟩)) v24 w_24 fun w_25 => T w_24 w_25 ∧ (∀ w'', T w_25 w'' → As6 undef w'') ∧ ∀ w'', Grow w_25 w'' → L [.pointer (some ⟨g4, 0, none⟩)] w'') ∧
    ∀ v20 : Value, ∀ v23 : Value, ∀ v24 : Value, ∀ vs6 : Value, ∀ (h_1 : Nat → Value) (w_26 : World), T w w_26 → A20 v20 w_26 → A23 v23 w_26 → A24 v24 w_26 → As6 vs6 w_26 → L [.pointer (some ⟨g4, 0, none⟩)] w_26 →
    ∃ ad r, (Value.pointer (some ⟨g4, 0, none⟩)) = .pointer (some ad) ∧ (loadVar 28 ad).run CC.P w_26 = .ok r w_26 ∧ (Grow w0 w_26 ∧ CanZ q w_26 r z) := by
  refine ⟨Mod g4 28, fun l w => match l with | [] => Blk w g4 28 [.bool false, .slice none 0 0] | _ => ResZ q w g4 z, Mod.grow, Mod.trans, fun w' h => hb4.grow h,
    fun v _ => v = .bool neg, fun v w => ∃ ws, RepW q w v ws ∧ sgn neg (wval ws) = z, fun v w => CanZ q w v z, fun _ _ => True, fun _ _ => ⟨_, rfl⟩, ?_, ?_, ?_, ?_, ?_⟩
  · intro w3 hm
    exact LoadP.fld (hbb.mod hm hne) ti4 rfl ⟨Grow.refl _, fun _ _ => rfl⟩
  · intro _ w3 hm
    refine (hcall w3 hm).mono ?_
    rintro r w4 ⟨hg4, ws, hr, hv⟩
    exact ⟨hg4, fun w5 hm5 => ⟨ws, RepW_mod hr hm5 (by decide), hv⟩⟩
  · rintro _ v23 w3 hm rfl ⟨ws, hr, hv⟩
    refine (c155 hr).mono ?_
    rintro r w4 ⟨hg4, hc⟩
    rw [hv] at hc
    exact ⟨hg4, fun w5 hm5 => hc.mod hm5 (by decide)⟩
  · intro _ _ v24 w3 hm hL _ _ h24
    exact storeZ hL rfl h24 fun w4 hm4 hr => ⟨hm4, fun _ _ => trivial, fun w5 hg => hr.grow hg⟩
  · intro _ _ _ _ _ w3 hm _ _ _ _ hL
    obtain ⟨r, hr, hv⟩ := resZ hL
    exact ⟨_, _, rfl, hr, Mod.new hg hm hlt, hv⟩
theorem c170 {L1 L2 : Nat} {p q : Nat → TypeId → Prop} {w : World} {a b : Value} {x y : Int} (ha : RepZ L1 p w a x) (hb : RepZ L2 p w b y) (hq : Nw q w) (hn : max L1 L2 + 2 < 1099511627776) :
    CallP CC 170 [a, b] w fun r w' => Grow w w' ∧ CanZ q w' r (x + y) := by
  obtain ⟨na, sa, xs, rfl, hwa, hla, rfl⟩ := ha
  obtain ⟨nb, sb, ys, rfl, hwb, hlb, rfl⟩ := hb
  apply call170
  refine BoxP.mk fun g2 w1 hg1 hlt2 hlt2' hb2 => BoxP.mk fun g3 w2 hg2 hlt3 hlt3' hb3 => AllocP.mk ti28 fun g4 w3 hg3 hlt4 hlt4' hb4 => ?_
  have hb2' := (hb2.grow hg2).grow hg3
  have hb3' := hb3.grow hg3
  have hg03 := (hg1.trans hg2).trans hg3
  have hwa3 := hwa.grow hg03
  have hwb3 := hwb.grow hg03
  have hs1 := hg1.size
  have hs2 := hg2.size
  refine ⟨fun v _ => v = sa, fun v w => RepW p w v (trimL xs), fun v _ => v = sb, fun v w => RepW p w v (trimL ys), fun _ _ => ⟨_, rfl⟩, ?_, ?_, fun _ _ _ _ => ⟨_, rfl⟩, ?_, ?_, ?_⟩
  · intro w4 hg
    exact LoadP.fld (hb2'.grow hg) ti26 rfl ⟨Grow.refl _, fun _ _ => rfl⟩
  · rintro _ w4 hg rfl
    exact (c157 (hwa3.grow hg)).mono fun r w5 h => ⟨h.1, fun w6 hg6 => h.2.grow hg6⟩
  · intro _ _ w4 hg
    exact LoadP.fld (hb3'.grow hg) ti26 rfl ⟨Grow.refl _, fun _ _ => rfl⟩
  · rintro _ _ _ w4 hg _ _ rfl
    exact (c157 (hwb3.grow hg)).mono fun r w5 h => ⟨h.1, fun w6 hg6 => h.2.grow hg6⟩
  · rintro _ v9 _ v12 - w4 hg4 rfl h9 rfl h12
    have hg04 := hg03.trans hg4
    have hb2'' := hb2'.grow hg4
    have hb3'' := hb3'.grow hg4
    have hb4' := hb4.grow hg4
    have hlx := trimL_length_le xs
    have hly := trimL_length_le ys
    have hlt04 : w.heap.size ≤ g4 := by omega
    refine px rfl (LoadP.fld hb2'' ti4 rfl (px rfl (LoadP.fld hb3'' ti4 rfl (px rfl (cB (fun h => ?_) (fun h => ?_))))))
    · have hnn : na = nb := by simpa using h
      refine tailZ hg04 hlt04 hb4' hb2'' (by omega) fun w5 hm => ?_
      refine (c209 (RepW_mod h9 hm (by decide)) (RepW_mod h12 hm (by decide)) (hq.grow (Mod.new hg04 hm hlt04)) (by omega)).mono ?_
      rintro r w6 ⟨hg6, ws, hr, _, hv⟩
      refine ⟨hg6, ws, hr, ?_⟩
      rw [hv, wval_trimL, wval_trimL, ← hnn]
      unfold sgn; split <;> omega
    · have hnn : na ≠ nb := by simpa using h
      refine (c210 h9 h12 (trimL_trim _) (trimL_trim _)).mono ?_
      rintro _ w5 ⟨hg5, d, rfl, hd0, hd1⟩
      rw [wval_trimL, wval_trimL] at hd0 hd1
      refine px rfl (cD (fun hge => ?_) (fun hlt => ?_))
      · refine tailZ (hg04.trans hg5) hlt04 (hb4'.grow hg5) (hb2''.grow hg5) (by omega) fun w6 hm => ?_
        refine (c211 (RepW_mod (h9.grow hg5) hm (by decide)) (RepW_mod (h12.grow hg5) hm (by decide)) (hq.grow (Mod.new (hg04.trans hg5) hm hlt04)) (by omega) (by rw [wval_trimL, wval_trimL]; omega)).mono ?_
        rintro r w7 ⟨hg7, ws, hr, _, hv⟩
        refine ⟨hg7, ws, hr, ?_⟩
        rw [hv, wval_trimL, wval_trimL]
        cases na <;> cases nb <;> simp_all [sgn] <;> omega
      · refine tailZ (hg04.trans hg5) hlt04 (hb4'.grow hg5) (hb3''.grow hg5) (by omega) fun w6 hm => ?_
        refine (c211 (RepW_mod (h12.grow hg5) hm (by decide)) (RepW_mod (h9.grow hg5) hm (by decide)) (hq.grow (Mod.new (hg04.trans hg5) hm hlt04)) (by omega) (by rw [wval_trimL, wval_trimL]; omega)).mono ?_
        rintro r w7 ⟨hg7, ws, hr, _, hv⟩
        refine ⟨hg7, ws, hr, ?_⟩
        rw [hv, wval_trimL, wval_trimL]
        cases na <;> cases nb <;> simp_all [sgn] <;> omega
theorem c154 {L1 L2 : Nat} {p q : Nat → TypeId → Prop} {w : World} {a b : Value} {x y : Int} (ha : RepZ L1 p w a x) (hb : RepZ L2 p w b y) (hq : Nw q w) (hn : max L1 L2 + 2 < 1099511627776) :
    CallP CC 154 [a, b] w fun r w' => Grow w w' ∧ CanZ q w' r (x - y) := by
  obtain ⟨na, sa, xs, rfl, hwa, hla, hx⟩ := ha
  obtain ⟨nb, sb, ys, rfl, hwb, hlb, hy⟩ := hb
  apply call154
  refine BoxP.mk fun g2 w1 hg1 hlt2 hlt2' hb2 => BoxP.mk fun g3 w2 hg2 hlt3 hlt3' hb3 => AllocP.mk ti28 fun g4 w3 hg3 hlt4 hlt4' hb4 => ?_
  have hb2' := (hb2.grow hg2).grow hg3
  have hb3' := hb3.grow hg3
  have hg03 := (hg1.trans hg2).trans hg3
  have hs1 := hg1.size
  have hs2 := hg2.size
  have hlt04 : w.heap.size ≤ g4 := by omega
  refine LoadP.row ti28 hb2' rfl (px rfl (LoadP.fld hb3' ti4 rfl (px rfl (px rfl (LoadP.fld hb3' ti26 rfl ?_)))))
  obtain ⟨ab, cb, rfl, _⟩ := hwb.shape
  refine px rfl ?_
  have hbn : RepZ L2 p w3 (.agg #[.bool (!nb), .slice ab ys.length cb]) (-y) := ⟨!nb, _, ys, rfl, hwb.grow hg03, hlb, by rw [hy]; cases nb <;> simp [sgn]⟩
  have han : RepZ L1 p w3 (.agg #[.bool na, sa]) x := ⟨na, sa, xs, rfl, hwa.grow hg03, hla, hx⟩
  refine (c170 han hbn (hq.grow hg03) hn).mono ?_
  rintro r w4 ⟨hg4, hr⟩
  refine storeZ (hb4.grow hg4) rfl hr fun w5 hm5 hres => ?_
  obtain ⟨r', hr', hv⟩ := resZ hres
  exact ⟨_, _, rfl, hr', Mod.new (hg03.trans hg4) hm5 hlt04, by rw [Int.sub_eq_add_neg]; exact hv⟩
theorem c90 {L1 L2 : Nat} {p : Nat → TypeId → Prop} {w : World} {a b : Value} {x y : Int} (ha : RepZ L1 p w a x) (hb : RepZ L2 p w b y) (hn : max L1 L2 + 2 < 1099511627776) :
    CallP CC 90 [a, b] w fun r w' => Grow w w' ∧ r = .int .i64 (x - y).sign := by
  apply call90
  have hA := ha; have hB := hb
  obtain ⟨na, sa, xs, rfl, hwa, hla, hx⟩ := ha
  obtain ⟨nb, sb, ys, rfl, hwb, hlb, hy⟩ := hb
  refine BoxP.mk fun g2 w1 hg1 hlt2 hlt2' hb2 => BoxP.mk fun g3 w2 hg2 hlt3 hlt3' hb3 => ?_
  refine LoadP.row ti28 (hb2.grow hg2) rfl (LoadP.row ti28 hb3 rfl ?_)
  have hg := hg1.trans hg2
  refine (c154 (q := fun _ _ => True) (hA.grow hg) (hB.grow hg) (fun _ _ => trivial) hn).mono ?_
  rintro r w3 ⟨hg3, hr⟩
  obtain ⟨L, hL⟩ : ∃ L, (x - y).natAbs < 4294967296 ^ L := ⟨(x - y).natAbs, Nat.lt_pow_self (by decide)⟩
  refine (c103 (hr.rep hL)).mono ?_
  rintro r' w4 ⟨hg4, rfl⟩
  exact ⟨(hg.trans hg3).trans hg4, rfl⟩
theorem c91 {L1 L2 : Nat} {p q : Nat → TypeId → Prop} {w : World} {a b : Value} {x y : Int} (ha : RepZ L1 p w a x) (hb : RepZ L2 p w b y) (hq : Nw q w) (hn : L1 + L2 < 1099511627776) :
    CallP CC 91 [a, b] w fun r w' => Grow w w' ∧ CanZ q w' r (x * y) := by
  obtain ⟨na, sa, xs, rfl, hwa, hla, hx⟩ := ha
  obtain ⟨nb, sb, ys, rfl, hwb, hlb, hy⟩ := hb
  apply call91
  refine BoxP.mk fun g2 w1 hg1 hlt2 hlt2' hb2 => BoxP.mk fun g3 w2 hg2 hlt3 hlt3' hb3 => AllocP.mk ti28 fun g4 w3 hg3 hlt4 hlt4' hb4 => ?_
  have hb2' := (hb2.grow hg2).grow hg3
  have hb3' := hb3.grow hg3
  have hg03 := (hg1.trans hg2).trans hg3
  have hwa3 := hwa.grow hg03
  have hwb3 := hwb.grow hg03
  have hs1 := hg1.size
  have hs2 := hg2.size
  have hlt04 : w.heap.size ≤ g4 := by omega
  have hne2 : g2 ≠ g4 := by omega
  have hne3 : g3 ≠ g4 := by omega
  have hlx := trimL_length_le xs
  have hly := trimL_length_le ys
  have hz : sgn (na != nb) (wval xs * wval ys) = x * y := by
    subst hx; subst hy
    cases na <;> cases nb <;> simp [sgn, Int.natCast_mul, Int.neg_mul, Int.mul_neg]
  refine ⟨Mod g4 28, fun l w => match l with | [] => Blk w g4 28 [.bool false, .slice none 0 0] | _ => ResZ q w g4 (x * y), Mod.grow, Mod.trans, fun w' h => hb4.grow h,
    fun v _ => v = .bool na, fun v _ => v = .bool nb, fun v _ => v = sa, fun v w => RepW p w v (trimL xs), fun v _ => v = sb, fun v w => RepW p w v (trimL ys), fun v w => ∃ ws, RepW q w v ws ∧ wval ws = wval xs * wval ys, fun v w => CanZ q w v (x * y), fun _ _ => True,
    fun _ _ => ⟨_, rfl⟩, ?_, fun _ _ _ => ⟨_, rfl⟩, ?_, ?_, fun _ _ _ _ => ⟨_, rfl⟩, ?_, ?_, fun _ _ _ _ _ _ => ⟨_, rfl⟩, ?_, ?_, ?_, ?_, ?_, ?_⟩
  · intro w4 hm
    exact LoadP.fld (hb2'.mod hm hne2) ti4 rfl ⟨Grow.refl _, fun _ _ => rfl⟩
  · intro _ w4 hm
    exact LoadP.fld (hb3'.mod hm hne3) ti4 rfl ⟨Grow.refl _, fun _ _ => rfl⟩
  · rintro _ _ w4 hm rfl rfl; exact ⟨_, rfl⟩
  · intro _ _ w4 hm
    exact LoadP.fld (hb2'.mod hm hne2) ti26 rfl ⟨Grow.refl _, fun _ _ => rfl⟩
  · rintro _ _ _ w4 hm rfl
    exact (c157 (RepW_mod hwa3 hm (by decide))).mono fun r w5 h => ⟨h.1, fun w6 hm6 => RepW_mod h.2 hm6 (by decide)⟩
  · intro _ _ _ _ w4 hm
    exact LoadP.fld (hb3'.mod hm hne3) ti26 rfl ⟨Grow.refl _, fun _ _ => rfl⟩
  · rintro _ _ _ _ _ w4 hm _ _ rfl
    exact (c157 (RepW_mod hwb3 hm (by decide))).mono fun r w5 h => ⟨h.1, fun w6 hm6 => RepW_mod h.2 hm6 (by decide)⟩
  · rintro _ _ _ _ _ _ w4 hm _ h12 _ h15
    refine (c156 h12 h15 (hq.grow (Mod.new hg03 hm hlt04)) (by omega)).mono ?_
    rintro r w5 ⟨hg5, ws, hr, _, hv⟩
    rw [wval_trimL, wval_trimL] at hv
    exact ⟨hg5, fun w6 hm6 => ⟨ws, RepW_mod hr hm6 (by decide), hv⟩⟩
  · rintro _ _ _ _ _ _ _ w4 hm rfl rfl _ _ _ _ ⟨ws, hr, hv⟩
    refine (c155 (neg := na != nb) hr).mono ?_
    rintro r w5 ⟨hg5, hc⟩
    rw [hv, hz] at hc
    exact ⟨hg5, fun w6 hm6 => hc.mod hm6 (by decide)⟩
  · intro _ _ _ _ _ _ _ v17 w4 hm hL _ _ _ _ _ _ _ h17
    exact storeZ hL rfl h17 fun w5 hm5 hr => ⟨hm5, fun _ _ => trivial, fun w6 hg => hr.grow hg⟩
  · intro _ _ _ _ _ _ _ _ _ _ w4 hm _ _ _ _ _ _ _ _ _ hL
    obtain ⟨r, hr, hv⟩ := resZ hL
    exact ⟨_, _, rfl, hr, Mod.new hg03 hm hlt04, hv⟩
theorem RepW_inj {p : Nat → TypeId → Prop} {w : World} {v : Value} {xs ys : List Nat} (h : RepW p w v xs) (h' : RepW p w v ys) : xs = ys := by
  have hl : xs.length = ys.length := by
    obtain ⟨a, c, rfl, _⟩ := h.shape
    obtain ⟨a', c', he, _⟩ := h'.shape
    simp only [Value.slice.injEq] at he
    exact he.2.1
  rcases h.1.2 with ⟨rfl, h0⟩ | ⟨g, off, cap, rfl, _, _, c, fr, hg, hc⟩
  · have e1 : xs = [] := List.length_eq_zero_iff.1 h0
    have e2 : ys = [] := List.length_eq_zero_iff.1 (by omega)
    rw [e1, e2]
  · rcases h'.1.2 with ⟨he, _⟩ | ⟨g', off', cap', he, _, _, c', fr', hg', hc'⟩
    · cases he
    · simp only [Value.slice.injEq, Option.some.injEq, Addr.mk.injEq, and_true] at he
      obtain ⟨⟨rfl, rfl⟩, -, -⟩ := he
      rw [hg] at hg'; cases hg'
      apply List.ext_getElem hl
      intro i h1 h2
      have e1 := hc i _ (u32s_get (List.getElem?_eq_getElem h1))
      have e2 := hc' i _ (u32s_get (List.getElem?_eq_getElem h2))
      rw [e1] at e2
      simp only [Option.some.injEq, Value.int.injEq, true_and] at e2
      omega
open Classical in
noncomputable def wnum (w : World) (v : Value) : Nat := if h : ∃ vs, RepW (fun _ _ => True) w v vs then wval h.choose else 0
theorem wnum_eq {w : World} {v : Value} {vs : List Nat} (h : RepW (fun _ _ => True) w v vs) : wnum w v = wval vs := by
  unfold wnum
  have hx : ∃ vs, RepW (fun _ _ => True) w v vs := ⟨vs, h⟩
  rw [dif_pos hx, RepW_inj hx.choose_spec h]
theorem c197 {L1 L2 : Nat} {p q : Nat → TypeId → Prop} {w : World} {a b : Value} {x y : Int} (ha : RepZ L1 p w a x) (hb : RepZ L2 p w b y) (hq : Nw q w) (hn : L1 + L2 + 2 < 549755813888) :
    CallP CC 197 [a, b] w fun r w' => Grow w w' ∧ CanZ q w' r ((Nat.gcd x.natAbs y.natAbs : Nat) : Int) := by
  obtain ⟨na, sa, xs, rfl, hwa, hla, hx⟩ := ha
  obtain ⟨nb, sb, ys, rfl, hwb, hlb, hy⟩ := hb
  have hxa : x.natAbs = wval xs := by subst hx; cases na <;> simp [sgn]
  have hya : y.natAbs = wval ys := by subst hy; cases nb <;> simp [sgn]
  rw [hxa, hya]
  apply call197
  refine BoxP.mk fun g2 w1 hg1 hlt2 hlt2' hb2 => BoxP.mk fun g3 w2 hg2 hlt3 hlt3' hb3 => AllocP.mk ti28 fun g4 w3 hg3 hlt4 hlt4' hb4 => ?_
  have hb2' := (hb2.grow hg2).grow hg3
  have hb3' := hb3.grow hg3
  have hg03 := (hg1.trans hg2).trans hg3
  have hwa3 := hwa.grow hg03
  have hwb3 := hwb.grow hg03
  have hs1 := hg1.size
  have hs2 := hg2.size
  have hlt04 : w.heap.size ≤ g4 := by omega
  refine ⟨fun v _ => v = sa, fun v w => RepW p w v (trimL xs), fun v _ => v = sb, fun v w => RepW p w v (trimL ys), fun _ _ => ⟨_, rfl⟩, ?_, ?_, fun _ _ _ _ => ⟨_, rfl⟩, ?_, ?_, ?_⟩
  · intro w4 hg
    exact LoadP.fld (hb2'.grow hg) ti26 rfl ⟨Grow.refl _, fun _ _ => rfl⟩
  · rintro _ w4 hg rfl
    exact (c157 (hwa3.grow hg)).mono fun r w5 h => ⟨h.1, fun w6 hg6 => h.2.grow hg6⟩
  · intro _ _ w4 hg
    exact LoadP.fld (hb3'.grow hg) ti26 rfl ⟨Grow.refl _, fun _ _ => rfl⟩
  · rintro _ _ _ w4 hg _ _ rfl
    exact (c157 (hwb3.grow hg)).mono fun r w5 h => ⟨h.1, fun w6 hg6 => h.2.grow hg6⟩
  · rintro _ v11 _ v14 - w4 hg4 rfl h11 rfl h14
    have hlx := trimL_length_le xs
    have hly := trimL_length_le ys
    refine ⟨fun u v w' => ∃ us vs, RepW (fun _ _ => True) w' u us ∧ RepW (fun _ _ => True) w' v vs ∧ Trim us ∧ Trim vs ∧ us.length ≤ L1 + L2 ∧ vs.length ≤ L1 + L2 ∧ Nat.gcd (wval us) (wval vs) = Nat.gcd (wval xs) (wval ys) ∧ Grow w4 w',
      fun _ v w' => wnum w' v, ⟨_, _, RepW.mono h11 (fun _ _ _ => trivial), RepW.mono h14 (fun _ _ _ => trivial), trimL_trim _, trimL_trim _, by omega, by omega, by rw [wval_trimL, wval_trimL], Grow.refl _⟩, ?_⟩
    rintro u v - w5 ⟨us, vs, hu, hv, tu, tv, hlu, hlv, hgcd, hg5⟩
    refine px hv.1.len (px rfl (cD (fun h1 => ?_) (fun h1 => ?_)))
    · have hne : vs ≠ [] := by intro e; subst e; simp at h1
      refine (c221 (q := fun _ _ => True) hu hv (fun _ _ => trivial) tv hne (by omega)).mono ?_
      rintro _ w6 ⟨hg6, s1, s2, q1, r1, rfl, hq1, hr1, tq, tr, hqv, hrv⟩
      have hlt : wval r1 < wval vs := by rw [hrv]; exact Nat.mod_lt _ (tv.pos hne)
      have hvl := wval_lt hv.2
      refine px rfl (px rfl ⟨⟨vs, r1, hv.grow hg6, hr1, tv, tr, hlv, ?_, ?_, hg5.trans hg6⟩, ?_⟩)
      · have := tr.le_of_lt (Nat.lt_trans hlt hvl); omega
      · rw [hrv, ← hgcd, Nat.gcd_comm (wval us), Nat.gcd_rec (wval vs) (wval us), Nat.gcd_comm]
      · show wnum w6 s2 < wnum w5 v
        rw [wnum_eq hr1, wnum_eq hv]; exact hlt
    · have hvs : vs = [] := List.length_eq_zero_iff.1 (by omega)
      subst hvs
      have hg05 := (hg03.trans hg4).trans hg5
      simp only [wval, Nat.gcd_zero_right] at hgcd
      refine (c199 hu (hq.grow hg05)).mono ?_
      rintro r w6 ⟨hg6, hr⟩
      refine (c155 (neg := false) hr).mono ?_
      rintro r' w7 ⟨hg7, hc⟩
      have hcv : sgn false (wval us) = ((Nat.gcd (wval xs) (wval ys) : Nat) : Int) := by rw [← hgcd]; rfl
      rw [hcv] at hc
      refine storeZ ((((hb4.grow hg4).grow hg5).grow hg6).grow hg7) rfl hc fun w8 hm8 hres => ?_
      obtain ⟨r2, hr2, hv2⟩ := resZ hres
      exact ⟨_, _, rfl, hr2, Mod.new ((hg05.trans hg6).trans hg7) hm8 hlt04, hv2⟩
theorem ResZ.mod {p : Nat → TypeId → Prop} {w w' : World} {g g' : Nat} {z : Int} (h : ResZ p w g z) (hm : Mod g' 28 w w') (hne : g ≠ g') : ResZ p w' g z := by
  obtain ⟨cs, hl, hb, hc⟩ := h
  exact ⟨cs, hl, hb.mod hm hne, hc.mod hm (by decide)⟩
theorem c198 {L1 L2 : Nat} {p q : Nat → TypeId → Prop} {w : World} {a b : Value} {x y : Int} (ha : RepZ L1 p w a x) (hb : RepZ L2 p w b y) (hq : Nw q w) (hy0 : 0 < y) (hn : L1 + L2 + 2 < 549755813888) :
    CallP CC 198 [a, b] w fun r w' => Grow w w' ∧ ∃ r1 r2, r = .tuple #[r1, r2, .int .i64 0] ∧ CanZ q w' r1 (x / y) ∧ CanZ q w' r2 (x % y) := by
  obtain ⟨na, sa, xs, rfl, hwa, hla, hx⟩ := ha
  obtain ⟨nb, sb, ys, rfl, hwb, hlb, hy⟩ := hb
  have hnb : nb = false := by
    cases nb with
    | false => rfl
    | true => simp [sgn] at hy; omega
  subst hnb
  have hyv : y = (wval ys : Int) := hy
  have hypos : 0 < wval ys := by omega
  apply call198
  refine BoxP.mk fun g2 w1 hg1 hlt2 hlt2' hb2 => BoxP.mk fun g3 w2 hg2 hlt3 hlt3' hb3 => AllocP.mk ti28 fun g4 w3 hg3 hlt4 hlt4' hb4 => AllocP.mk ti28 fun g5 w4 hg4 hlt5 hlt5' hb5 => ?_
  have hb2' := ((hb2.grow hg2).grow hg3).grow hg4
  have hb3' := (hb3.grow hg3).grow hg4
  have hb4' := hb4.grow hg4
  have hg03 := ((hg1.trans hg2).trans hg3).trans hg4
  have hwa3 := hwa.grow hg03
  have hwb3 := hwb.grow hg03
  have hs1 := hg1.size
  have hs2 := hg2.size
  have hs3 := hg3.size
  have hlt04 : w.heap.size ≤ g4 := by omega
  have hlt05 : w.heap.size ≤ g5 := by omega
  have hne45 : g4 ≠ g5 := by omega
  have hlx := trimL_length_le xs
  have hly := trimL_length_le ys
  refine ⟨fun v _ => v = sa, fun v w => RepW p w v (trimL xs), fun v _ => v = sb, fun v w => RepW p w v (trimL ys), fun _ _ => ⟨_, rfl⟩, ?_, ?_, fun _ _ _ _ => ⟨_, rfl⟩, ?_, ?_, ?_⟩
  · intro w5 hg
    exact LoadP.fld (hb2'.grow hg) ti26 rfl ⟨Grow.refl _, fun _ _ => rfl⟩
  · rintro _ w5 hg rfl
    exact (c157 (hwa3.grow hg)).mono fun r w6 h => ⟨h.1, fun w7 hg7 => h.2.grow hg7⟩
  · intro _ _ w5 hg
    exact LoadP.fld (hb3'.grow hg) ti26 rfl ⟨Grow.refl _, fun _ _ => rfl⟩
  · rintro _ _ _ w5 hg _ _ rfl
    exact (c157 (hwb3.grow hg)).mono fun r w6 h => ⟨h.1, fun w7 hg7 => h.2.grow hg7⟩
  · rintro _ v13 _ v16 - w5 hg5 rfl h13 rfl h16
    have hyne : trimL ys ≠ [] := fun e => by have := (trimL_nil_iff ys).1 e; omega
    have hylen : 0 < (trimL ys).length := List.length_pos_iff.2 hyne
    refine px h16.1.len (px rfl (cF ?_ ?_))
    · have : ¬ (((trimL ys).length : Int) = 0) := by omega
      simpa using this
    refine (c221 (p := fun _ _ => True) (q := q) (RepW.mono h13 fun _ _ _ => trivial) (RepW.mono h16 fun _ _ _ => trivial) ((hq.grow hg03).grow hg5) (trimL_trim _) hyne (by omega)).mono ?_
    rintro _ w6 ⟨hg6, s1, s2, q1, m1, rfl, hq1, hm1, tq, tm, hqv, hmv⟩
    rw [wval_trimL, wval_trimL] at hqv hmv
    have hmlt : wval m1 < wval ys := by rw [hmv]; exact Nat.mod_lt _ hypos
    have hg56 := hg5.trans hg6
    have hb2'' := hb2'.grow hg56
    have hb3'' := hb3'.grow hg56
    have hb4'' := hb4'.grow hg56
    have hb5'' := hb5.grow hg56
    have hg06 := hg03.trans hg56
    have hql : q1.length ≤ L1 := tq.le_of_lt (Nat.lt_of_le_of_lt (by rw [hqv]; exact Nat.div_le_self _ _) (Nat.lt_of_lt_of_le (wval_lt hwa.2) (Nat.pow_le_pow_right (by decide) hla)))
    have hml : m1.length ≤ L2 := tm.le_of_lt (Nat.lt_of_lt_of_le (Nat.lt_trans hmlt (wval_lt hwb.2)) (Nat.pow_le_pow_right (by decide) hlb))
    obtain ⟨am, cm, rfl, _⟩ := hm1.shape
    have hdm := Nat.div_add_mod (wval xs) (wval ys)
    rw [← hqv, ← hmv] at hdm
    refine px rfl (px rfl ⟨fun v _ => v = .bool na, fun _ _ => ⟨_, rfl⟩, ?_, fun _ _ _ _ _ => ⟨_, rfl⟩, fun _ _ _ _ _ => ⟨_, rfl⟩, ?_, ?_⟩)
    · intro w7 hg
      exact LoadP.fld (hb2''.grow hg) ti4 rfl ⟨Grow.refl _, fun _ _ => rfl⟩
    · rintro _ w7 hg rfl; exact ⟨_, rfl⟩
    · rintro _ - w7 hg7 rfl
      have hg07 := hg06.trans hg7
      -- what ends both ways
      have fin : ∀ (t1 t2 : Value) (n' m' : List Nat) (w8 : World), Grow w7 w8 → RepW (fun _ _ => True) w8 t1 n' → RepW q w8 t2 m' → RepW q w8 t1 n' → sgn na (wval n') = x / y → ((wval m' : Nat) : Int) = x % y →
          (∃ x41, fieldAddrV (tyOf tyTab 28) 0 (.pointer (some ⟨g2, 0, none⟩)) = some x41 ∧
            LoadP CC 4 x41 w8 fun x42 w_36 =>
            ∃ x43, fieldAddrV (tyOf tyTab 28) 0 (.pointer (some ⟨g3, 0, none⟩)) = some x43 ∧
            LoadP CC 4 x43 w_36 fun x44 w_37 =>
            ∃ x45, binV .bool .neq x42 x44 = some x45 ∧
            CallP CC 155 [x45, t1] w_37 fun x47 w_38 =>
            CallP CC 155 [(.bool false), t2] w_38 fun x49 w_39 =>
            StoreP CC 28 (.pointer (some ⟨g4, 0, none⟩)) x47 w_39 fun w_40 =>
            StoreP CC 28 (.pointer (some ⟨g5, 0, none⟩)) x49 w_40 fun w_41 =>
            ∃ ad_2 r_2, (Value.pointer (some ⟨g4, 0, none⟩)) = .pointer (some ad_2) ∧ (loadVar 28 ad_2).run CC.P w_41 = .ok r_2 w_41 ∧
            ∃ ad_3 r_3, (Value.pointer (some ⟨g5, 0, none⟩)) = .pointer (some ad_3) ∧ (loadVar 28 ad_3).run CC.P w_41 = .ok r_3 w_41 ∧
            (Grow w w_41 ∧ ∃ r1 r2, (Value.tuple #[r_2, r_3, (.int .i64 0)]) = .tuple #[r1, r2, .int .i64 0] ∧ CanZ q w_41 r1 (x / y) ∧ CanZ q w_41 r2 (x % y))) := by
        intro t1 t2 n' m' w8 hg8 _ h2 h1 hv1 hv2
        have hg78 := hg7.trans hg8
        refine px rfl (LoadP.fld (hb2''.grow hg78) ti4 rfl (px rfl (LoadP.fld (hb3''.grow hg78) ti4 rfl (px rfl ?_))))
        refine (c155 (neg := !(na == false)) h1).mono ?_
        rintro u1 w9 ⟨hg9, hu1⟩
        refine (c155 (neg := false) (h2.grow hg9)).mono ?_
        rintro u2 w10 ⟨hg10, hu2⟩
        have e1 : sgn (!(na == false)) (wval n') = x / y := by rw [← hv1]; cases na <;> rfl
        have e2 : sgn false (wval m') = x % y := hv2
        rw [e1] at hu1; rw [e2] at hu2
        have hgr := (hg78.trans hg9).trans hg10
        refine storeZ (hb4''.grow hgr) rfl (hu1.grow hg10) fun w11 hm11 hr1 => ?_
        refine storeZ ((hb5''.grow hgr).mod hm11 hne45.symm) rfl (hu2.mod hm11 (by decide)) fun w12 hm12 hr2 => ?_
        obtain ⟨o1, ho1, hc1⟩ := resZ (hr1.mod hm12 hne45)
        obtain ⟨o2, ho2, hc2⟩ := resZ hr2
        exact ⟨_, _, rfl, ho1, _, _, rfl, ho2, Mod.new (Mod.new (hg06.trans hgr) hm11 hlt04) hm12 hlt05, _, _, rfl, hc1, hc2⟩
      have hm7 := hm1.grow hg7
      have hq7 := hq1.grow hg7
      have hquot : ∀ d r : Int, r + y * d = x → 0 ≤ r → r < y → x / y = d ∧ x % y = r := fun d r h1 h2 h3 => (Int.ediv_emod_unique hy0).2 ⟨h1, h2, h3⟩
      have hdmI : (wval xs : Int) = wval ys * wval q1 + wval m1 := by rw [← hdm]; simp [Int.natCast_mul]
      cases na with
      | false =>
        have hxv : x = (wval xs : Int) := hx
        obtain ⟨h1, h2⟩ := hquot (wval q1) (wval m1) (by rw [hxv, hyv, hdmI]; omega) (by omega) (by omega)
        exact cF rfl (fin _ _ q1 m1 w7 (Grow.refl _) (RepW.mono hq7 fun _ _ _ => trivial) hm7 hq7 (by rw [h1]; rfl) h2.symm)
      | true =>
        have hxv : x = -(wval xs : Int) := hx
        refine cD (fun hc => ?_) (fun hc => ?_)
        · have hmp : 0 < wval m1 := tm.pos (by intro e; subst e; simp at hc)
          refine litW (p := q) (x := 1) (by decide) (hq.grow hg07) fun v w8 hg8 hr8 _ => ?_
          refine (c209 (q := q) (hq7.grow hg8) hr8 ((hq.grow hg07).grow hg8) (by simp; omega)).mono ?_
          rintro u1 w9 ⟨hg9, n', hn1, _, hnv⟩
          have hg79 := hg8.trans hg9
          refine (c211 (p := fun _ _ => True) (q := q) (RepW.mono (h16.grow ((hg6.trans hg7).trans hg79)) fun _ _ _ => trivial) (RepW.mono (hm7.grow hg79) fun _ _ _ => trivial) ((hq.grow hg07).grow hg79) (by omega) (by rw [wval_trimL]; omega)).mono ?_
          rintro u2 w10 ⟨hg10, m', hm2, _, hmv2⟩
          rw [wval_trimL] at hmv2
          have h1v : wval [1] = 1 := rfl
          rw [h1v] at hnv
          obtain ⟨h1, h2⟩ := hquot (-((wval n' : Nat) : Int)) ((wval m' : Nat) : Int) (by
            rw [hxv, hyv, hdmI, hnv, hmv2, Int.natCast_add, Int.natCast_sub (by omega), Int.mul_neg, Int.mul_add]; simp; omega) (by omega) (by rw [hmv2]; omega)
          exact fin _ _ n' m' w10 (hg79.trans hg10) (RepW.mono (hn1.grow hg10) fun _ _ _ => trivial) hm2 (hn1.grow hg10) (by rw [h1]; rfl) h2.symm
        · have hm0 : m1 = [] := List.length_eq_zero_iff.1 (by omega)
          have hm0v : wval m1 = 0 := by rw [hm0]; rfl
          obtain ⟨h1, h2⟩ := hquot (-(wval q1 : Int)) 0 (by rw [hxv, hyv, hdmI, hm0v, Int.mul_neg]; omega) (by omega) hy0
          exact fin _ _ q1 m1 w7 (Grow.refl _) (RepW.mono hq7 fun _ _ _ => trivial) hm7 hq7 (by rw [h1]; rfl) (by rw [h2, hm0v]; rfl)
end Go.Proofs.YtaajkcngcalgoaaGreat
namespace Go.Proofs.YtaajkcngcalgoaaGreat
open Go Go.Vc
attribute [local irreducible] Tryz.prog
abbrev TT : Nat → TypeId → Prop := fun _ _ => True
theorem RepZ.mono {L : Nat} {p q : Nat → TypeId → Prop} {w : World} {v : Value} {z : Int} (h : RepZ L p w v z) (hq : ∀ k, k < w.heap.size → p k 199 → q k 199) : RepZ L q w v z := by
  obtain ⟨neg, s, ws, rfl, hw, hr⟩ := h
  exact ⟨neg, s, ws, rfl, RepW.mono hw hq, hr⟩
theorem CanZ.mono {p q : Nat → TypeId → Prop} {w : World} {v : Value} {z : Int} (h : CanZ p w v z) (hq : ∀ k, k < w.heap.size → p k 199 → q k 199) : CanZ q w v z := by
  obtain ⟨neg, s, ws, rfl, hw, hr⟩ := h
  exact ⟨neg, s, ws, rfl, RepW.mono hw hq, hr⟩
theorem RepZ.tt {L : Nat} {p : Nat → TypeId → Prop} {w : World} {v : Value} {z : Int} (h : RepZ L p w v z) : RepZ L TT w v z := RepZ.mono h fun _ _ _ => trivial
theorem RepZ.le {L L' : Nat} {p : Nat → TypeId → Prop} {w : World} {v : Value} {z : Int} (h : RepZ L p w v z) (hl : L ≤ L') : RepZ L' p w v z := by
  obtain ⟨neg, s, ws, rfl, hw, hr, hz⟩ := h
  exact ⟨neg, s, ws, rfl, hw, Nat.le_trans hr hl, hz⟩
def RepQ (L : Nat) (p : Nat → TypeId → Prop) (w : World) (v : Value) (q : Rat) : Prop :=
  ∃ b1 s1 b2 s2 num den, v = .agg #[b1, s1, b2, s2] ∧ RepZ L p w (.agg #[b1, s1]) num ∧ RepZ L p w (.agg #[b2, s2]) den ∧ q = Rat.divInt num (if den = 0 then 1 else den)
def RepP (L : Nat) (p : Nat → TypeId → Prop) (w : World) (v : Value) (n d : Int) : Prop :=
  ∃ b1 s1 b2 s2, v = .agg #[b1, s1, b2, s2] ∧ RepZ L p w (.agg #[b1, s1]) n ∧ RepZ L p w (.agg #[b2, s2]) d ∧ 0 < d
def CanQ (p : Nat → TypeId → Prop) (w : World) (v : Value) (q : Rat) : Prop :=
  ∃ b1 s1 b2 s2, v = .agg #[b1, s1, b2, s2] ∧ CanZ p w (.agg #[b1, s1]) q.num ∧ CanZ p w (.agg #[b2, s2]) (if q.den = 1 then 0 else (q.den : Int))
section
variable {L : Nat} {p q : Nat → TypeId → Prop} {w w' : World} {v : Value} {x : Rat} {n d : Int} {g : Nat} {e : TypeId}
theorem RepQ.tt (h : RepQ L p w v x) : RepQ L TT w v x := by
  obtain ⟨b1, s1, b2, s2, num, den, rfl, h1, h2, hq⟩ := h
  exact ⟨b1, s1, b2, s2, num, den, rfl, h1.tt, h2.tt, hq⟩
theorem RepQ.mono (h : RepQ L p w v x) (hq : ∀ k, k < w.heap.size → p k 199 → q k 199) : RepQ L q w v x := by
  obtain ⟨b1, s1, b2, s2, num, den, rfl, h1, h2, hx⟩ := h
  exact ⟨b1, s1, b2, s2, num, den, rfl, h1.mono hq, h2.mono hq, hx⟩
theorem RepQ.keep (h : RepQ L p w v x) (hk : Kp p w w') : RepQ L p w' v x := by
  obtain ⟨b1, s1, b2, s2, num, den, rfl, h1, h2, hq⟩ := h
  exact ⟨b1, s1, b2, s2, num, den, rfl, h1.keep hk, h2.keep hk, hq⟩
theorem RepQ.grow (h : RepQ L p w v x) (hk : Grow w w') : RepQ L p w' v x := h.keep hk.kp
theorem RepQ.mod (h : RepQ L p w v x) (hm : Mod g e w w') (he : 199 ≠ e) : RepQ L p w' v x := by
  obtain ⟨b1, s1, b2, s2, num, den, rfl, h1, h2, hq⟩ := h
  exact ⟨b1, s1, b2, s2, num, den, rfl, h1.mod hm he, h2.mod hm he, hq⟩
theorem RepP.grow (h : RepP L p w v n d) (hk : Grow w w') : RepP L p w' v n d := by
  obtain ⟨b1, s1, b2, s2, rfl, h1, h2, hd⟩ := h
  exact ⟨b1, s1, b2, s2, rfl, h1.grow hk, h2.grow hk, hd⟩
theorem RepP.mod (h : RepP L p w v n d) (hm : Mod g e w w') (he : 199 ≠ e) : RepP L p w' v n d := by
  obtain ⟨b1, s1, b2, s2, rfl, h1, h2, hd⟩ := h
  exact ⟨b1, s1, b2, s2, rfl, h1.mod hm he, h2.mod hm he, hd⟩
theorem CanQ.mono (h : CanQ p w v x) (hq : ∀ k, k < w.heap.size → p k 199 → q k 199) : CanQ q w v x := by
  obtain ⟨b1, s1, b2, s2, rfl, h1, h2⟩ := h
  exact ⟨b1, s1, b2, s2, rfl, h1.mono hq, h2.mono hq⟩
theorem CanQ.keep (h : CanQ p w v x) (hk : Kp p w w') : CanQ p w' v x := by
  obtain ⟨b1, s1, b2, s2, rfl, h1, h2⟩ := h
  exact ⟨b1, s1, b2, s2, rfl, h1.keep hk, h2.keep hk⟩
theorem CanQ.grow (h : CanQ p w v x) (hk : Grow w w') : CanQ p w' v x := h.keep hk.kp
theorem CanQ.mod (h : CanQ p w v x) (hm : Mod g e w w') (he : 199 ≠ e) : CanQ p w' v x := by
  obtain ⟨b1, s1, b2, s2, rfl, h1, h2⟩ := h
  exact ⟨b1, s1, b2, s2, rfl, h1.mod hm he, h2.mod hm he⟩
def FitQ (L : Nat) (x : Rat) : Prop := x.num.natAbs < 4294967296 ^ L ∧ x.den < 4294967296 ^ L
theorem CanQ.rep (h : CanQ p w v x) (hx : FitQ L x) : RepQ L p w v x := by
  obtain ⟨b1, s1, b2, s2, rfl, h1, h2⟩ := h
  refine ⟨b1, s1, b2, s2, _, _, rfl, h1.rep hx.1, h2.rep ?_, ?_⟩
  · split
    · exact Nat.pow_pos (by decide)
    · simpa using hx.2
  · by_cases h' : x.den = 1
    · rw [if_pos h', if_pos rfl]
      conv => lhs; rw [← Rat.num_divInt_den x, h']
      rfl
    · have h0 : ¬ ((x.den : Int) = 0) := by have := x.den_pos; omega
      rw [if_neg h', if_neg h0, Rat.num_divInt_den]
end
theorem agg_one {L : Nat} {p : Nat → TypeId → Prop} {w : World} {b s : Value} {z : Int} (h : RepZ L p w (.agg #[b, s]) z) : b.oneCell' = true ∧ s.oneCell' = true := by
  obtain ⟨neg, s', ws, he, hw, _⟩ := h
  simp only [Value.agg.injEq, Array.mk.injEq, List.cons.injEq, and_true] at he
  obtain ⟨rfl, rfl⟩ := he
  obtain ⟨a, c, rfl, _⟩ := hw.shape
  exact ⟨rfl, rfl⟩
theorem agg_one' {p : Nat → TypeId → Prop} {w : World} {b s : Value} {z : Int} (h : CanZ p w (.agg #[b, s]) z) : b.oneCell' = true ∧ s.oneCell' = true := by
  obtain ⟨neg, s', ws, he, hw, _⟩ := h
  simp only [Value.agg.injEq, Array.mk.injEq, List.cons.injEq, and_true] at he
  obtain ⟨rfl, rfl⟩ := he
  obtain ⟨a, c, rfl, _⟩ := hw.shape
  exact ⟨rfl, rfl⟩
theorem CanZ.pair {p : Nat → TypeId → Prop} {w : World} {v : Value} {z : Int} (h : CanZ p w v z) : ∃ b s, v = .agg #[b, s] := by
  obtain ⟨neg, s, ws, rfl, _⟩ := h; exact ⟨_, _, rfl⟩
theorem RepZ.pair {L : Nat} {p : Nat → TypeId → Prop} {w : World} {v : Value} {z : Int} (h : RepZ L p w v z) : ∃ b s, v = .agg #[b, s] := by
  obtain ⟨neg, s, ws, rfl, _⟩ := h; exact ⟨_, _, rfl⟩
def ResP (L : Nat) (w : World) (g : Nat) (n d : Int) : Prop := ∃ cs, cs.length = 4 ∧ Blk w g 127 cs ∧ RepP L TT w (.agg cs.toArray) n d
theorem ResP.grow {L : Nat} {w w' : World} {g : Nat} {n d : Int} (h : ResP L w g n d) (hg : Grow w w') : ResP L w' g n d := by
  obtain ⟨cs, hl, hb, hr⟩ := h
  exact ⟨cs, hl, hb.grow hg, hr.grow hg⟩
theorem storeP {L : Nat} {w : World} {g : Nat} {n d : Int} {old : List Value} {v : Value} {k : World → Prop} (hb : Blk w g 127 old) (ho : old.length = 4) (h : RepP L TT w v n d)
    (hk : ∀ w', Mod g 127 w w' → ResP L w' g n d → k w') : StoreP CC 127 (.pointer (some ⟨g, 0, none⟩)) v w k := by
  have hP := h
  obtain ⟨b1, s1, b2, s2, rfl, h1, h2, hd⟩ := h
  have o1 := agg_one h1
  have o2 := agg_one h2
  refine StoreP.row (cs := [b1, s1, b2, s2]) hb ti127 ho rfl (by simp [o1, o2]) fun w4 hu hb4 => ?_
  have hm := Mod.of hu hb
  exact hk w4 hm ⟨_, rfl, hb4, hP.mod hm (by decide)⟩
theorem resP {L : Nat} {w : World} {g : Nat} {n d : Int} (h : ResP L w g n d) : ∃ r, (loadVar 127 ⟨g, 0, none⟩).run CC.P w = .ok r w ∧ RepP L TT w r n d := by
  obtain ⟨cs, hl, hb, hc⟩ := h
  exact ⟨_, res_row ti127 hb hl, hc⟩
def ResQ (p : Nat → TypeId → Prop) (w : World) (g : Nat) (x : Rat) : Prop := ∃ cs, cs.length = 4 ∧ Blk w g 30 cs ∧ CanQ p w (.agg cs.toArray) x
theorem ResQ.grow {p : Nat → TypeId → Prop} {w w' : World} {g : Nat} {x : Rat} (h : ResQ p w g x) (hg : Grow w w') : ResQ p w' g x := by
  obtain ⟨cs, hl, hb, hr⟩ := h
  exact ⟨cs, hl, hb.grow hg, hr.grow hg⟩
theorem storeQ {p : Nat → TypeId → Prop} {w : World} {g : Nat} {x : Rat} {old : List Value} {v : Value} {k : World → Prop} (hb : Blk w g 30 old) (ho : old.length = 4) (h : CanQ p w v x)
    (hk : ∀ w', Mod g 30 w w' → ResQ p w' g x → k w') : StoreP CC 30 (.pointer (some ⟨g, 0, none⟩)) v w k := by
  have hP := h
  obtain ⟨b1, s1, b2, s2, rfl, h1, h2⟩ := h
  have o1 := agg_one' h1
  have o2 := agg_one' h2
  refine StoreP.row (cs := [b1, s1, b2, s2]) hb ti30 ho rfl (by simp [o1, o2]) fun w4 hu hb4 => ?_
  have hm := Mod.of hu hb
  exact hk w4 hm ⟨_, rfl, hb4, hP.mod hm (by decide)⟩
theorem resQ {p : Nat → TypeId → Prop} {w : World} {g : Nat} {x : Rat} (h : ResQ p w g x) : ∃ r, (loadVar 30 ⟨g, 0, none⟩).run CC.P w = .ok r w ∧ CanQ p w r x := by
  obtain ⟨cs, hl, hb, hc⟩ := h
  exact ⟨_, res_row ti30 hb hl, hc⟩
end Go.Proofs.YtaajkcngcalgoaaGreat
namespace Go.Proofs.YtaajkcngcalgoaaGreat
open Go Go.Vc
attribute [local irreducible] Tryz.prog
theorem fld127 {w : World} {b1 s1 b2 s2 : Value} {k : Value → World → Prop} {g : Nat} {e : TypeId} (hb : Blk w g e [b1, s1, b2, s2]) : (k (.agg #[b1, s1]) w → LoadP CC 28 (.pointer (some ⟨g, 0, none⟩)) w k) ∧ (k (.agg #[b2, s2]) w → LoadP CC 28 (.pointer (some ⟨g, 2, none⟩)) w k) :=
  ⟨fun h => LoadP.flds hb ti28 (by simp) h, fun h => LoadP.flds hb ti28 (by simp) h⟩
theorem sign_eq_neg_one {z : Int} : z.sign = -1 ↔ z < 0 := by
  constructor
  · intro h; rcases Int.lt_trichotomy z 0 with h' | h' | h'
    · exact h'
    · subst h'; simp at h
    · rw [Int.sign_eq_one_of_pos h'] at h; cases h
  · exact Int.sign_eq_neg_one_of_neg
theorem c89 {L : Nat} {p : Nat → TypeId → Prop} {w : World} {v : Value} {x : Rat} (h : RepQ L p w v x) (hL : 2 ≤ L) :
    CallP CC 89 [v] w fun r w' => Grow w w' ∧ ∃ n d, RepP L TT w' r n d ∧ x = Rat.divInt n d := by
  obtain ⟨b1, s1, b2, s2, num, den, rfl, h1, h2, hx⟩ := h.tt
  have o1 := agg_one h1
  have o2 := agg_one h2
  apply call89
  refine BoxP.mk fun g1 w1 hg1 hlt1 hlt1' hb1 => AllocP.mk ti127 fun g2 w2 hg2 hlt2 hlt2' hb2 => ?_
  have hb1' : Blk w2 g1 30 [b1, s1, b2, s2] := hb1.grow hg2
  have hg02 := hg1.trans hg2
  have hne : g1 ≠ g2 := by omega
  have hlt : w.heap.size ≤ g2 := Nat.le_trans hg1.size hlt2
  refine px rfl ((fld127 hb1').2 ((c103 (h2.grow hg02)).mono ?_))
  rintro _ w4 ⟨hg4, rfl⟩
  have hg04 := hg02.trans hg4
  have hb1'' := hb1'.grow hg4
  have hb2' := hb2.grow hg4
  have h1' := h1.grow hg04
  have h2' := h2.grow hg04
  have pl : ∀ {w' : World}, Mod g2 127 w4 w' → Grow w w' := fun hm => Mod.new hg04 hm hlt
  refine px rfl (cB (fun hs => ?_) (fun hs => px rfl (cB (fun hs2 => ?_) (fun hs2 => ?_))))
  · have hd0 : den = 0 := Int.sign_eq_zero_iff_zero.1 (by simpa using hs)
    refine ⟨Mod g2 127, fun l w => match l with | [] => Blk w g2 127 [.bool false, .slice none 0 0, .bool false, .slice none 0 0] | _ => ResP L w g2 num 1, Mod.grow, Mod.trans, fun w' h => hb2'.grow h,
      fun v _ => v = .agg #[b1, s1], fun v w => RepZ L TT w v 1, fun _ _ => True, fun _ _ => ⟨_, rfl⟩, ?_, ?_, ?_, ?_, ?_⟩
    · intro w5 hm
      exact (fld127 (hb1''.mod hm hne)).1 ⟨Grow.refl _, fun _ _ => rfl⟩
    · intro _ w5 hm
      refine (c96 (p := TT) (n := 1) (by decide) (fun _ _ => trivial)).mono ?_
      rintro r w6 ⟨hg6, hr⟩
      exact ⟨hg6, fun w7 hm7 => (hr.rep (L := L) (by
        have : 4294967296 ^ 1 ≤ 4294967296 ^ L := Nat.pow_le_pow_right (by decide) (by omega)
        simp; omega)).mod hm7 (by decide)⟩
    · rintro _ v10 w5 hm rfl h10
      obtain ⟨b, s, rfl⟩ := h10.pair
      exact ⟨_, rfl⟩
    · rintro _ v10 w5 hm hL' rfl h10
      obtain ⟨b, s, rfl⟩ := h10.pair
      exact storeP hL' rfl (v := .agg #[b1, s1, b, s]) ⟨b1, s1, b, s, rfl, h1'.mod hm (by decide), h10, by decide⟩ fun w6 hm6 hr => ⟨hm6, fun _ _ => trivial, fun w7 hg => hr.grow hg⟩
    · intro _ _ _ _ w5 hm _ _ _ hL'
      obtain ⟨r, hr, hv⟩ := resP hL'
      exact ⟨_, _, rfl, hr, pl hm, num, 1, hv, by rw [hx, if_pos hd0]⟩
  · have hd0 : den < 0 := sign_eq_neg_one.1 (by simpa using hs2)
    refine ⟨Mod g2 127, fun l w => match l with | [] => Blk w g2 127 [.bool false, .slice none 0 0, .bool false, .slice none 0 0] | _ => ResP L w g2 (-num) (-den), Mod.grow, Mod.trans, fun w' h => hb2'.grow h,
      fun v _ => v = .agg #[b1, s1], fun v w => RepZ L TT w v (-num), fun v _ => v = .agg #[b2, s2], fun v w => RepZ L TT w v (-den), fun _ _ => True, fun _ _ => ⟨_, rfl⟩, ?_, ?_, fun _ _ _ _ => ⟨_, rfl⟩, ?_, ?_, ?_, ?_, ?_⟩
    · intro w5 hm
      exact (fld127 (hb1''.mod hm hne)).1 ⟨Grow.refl _, fun _ _ => rfl⟩
    · rintro _ w5 hm rfl
      refine (c153 (q := TT) (h1'.mod hm (by decide)) (fun _ _ => trivial)).mono ?_
      rintro r w6 ⟨hg6, hr⟩
      exact ⟨hg6, fun w7 hm7 => (hr.rep (L := L) (by rw [Int.natAbs_neg]; exact h1.size)).mod hm7 (by decide)⟩
    · intro _ _ w5 hm
      exact (fld127 (hb1''.mod hm hne)).2 ⟨Grow.refl _, fun _ _ => rfl⟩
    · rintro _ _ _ w5 hm _ _ rfl
      refine (c153 (q := TT) (h2'.mod hm (by decide)) (fun _ _ => trivial)).mono ?_
      rintro r w6 ⟨hg6, hr⟩
      exact ⟨hg6, fun w7 hm7 => (hr.rep (L := L) (by rw [Int.natAbs_neg]; exact h2.size)).mod hm7 (by decide)⟩
    · rintro _ v16 _ v19 w5 hm _ h16 _ h19
      obtain ⟨b, s, rfl⟩ := h16.pair
      obtain ⟨b', s', rfl⟩ := h19.pair
      exact ⟨_, rfl⟩
    · rintro _ v16 _ v19 w5 hm hL' _ h16 _ h19
      obtain ⟨b, s, rfl⟩ := h16.pair
      obtain ⟨b', s', rfl⟩ := h19.pair
      exact storeP hL' rfl (v := .agg #[b, s, b', s']) ⟨b, s, b', s', rfl, h16, h19, by omega⟩ fun w6 hm6 hr => ⟨hm6, fun _ _ => trivial, fun w7 hg => hr.grow hg⟩
    · intro _ _ _ _ _ _ w5 hm _ _ _ _ _ hL'
      obtain ⟨r, hr, hv⟩ := resP hL'
      refine ⟨_, _, rfl, hr, pl hm, -num, -den, hv, ?_⟩
      rw [hx, if_neg (by omega)]
      rw [Rat.divInt_eq_divInt_iff (by omega) (by omega), Int.mul_neg, Int.neg_mul]
  · have hd0 : 0 < den := by
      have h3 : den.sign ≠ 0 := by simpa using hs
      have h4 : den.sign ≠ -1 := by simpa using hs2
      have h5 : den ≠ 0 := fun h => h3 (by rw [h]; rfl)
      have h6 : ¬ den < 0 := fun h => h4 (sign_eq_neg_one.2 h)
      omega
    refine px rfl ((fld127 hb1'').1 (px rfl ((fld127 hb1'').2 (px rfl ?_))))
    refine storeP hb2' rfl (v := .agg #[b1, s1, b2, s2]) ⟨b1, s1, b2, s2, rfl, h1', h2', hd0⟩ fun w6 hm6 hr => ?_
    obtain ⟨r, hr, hv⟩ := resP hr
    exact ⟨_, _, rfl, hr, pl hm6, num, den, hv, by rw [hx, if_neg (by omega)]⟩
theorem ldZ {p : Nat → TypeId → Prop} {w : World} {g : Nat} {z : Int} {k : Value → World → Prop} (h : ResZ p w g z) (hk : ∀ v, CanZ p w v z → k v w) : LoadP CC 28 (.pointer (some ⟨g, 0, none⟩)) w k := by
  obtain ⟨cs, hl, hb, hc⟩ := h
  exact LoadP.row ti28 hb hl (hk _ hc)
theorem divInt_num {n d : Int} (hd : 0 < d) : (Rat.divInt n d).num = n / ((Nat.gcd n.natAbs d.natAbs : Nat) : Int) := by
  rw [Rat.num_divInt, Int.sign_eq_one_of_pos hd, Int.one_mul, Int.gcd, Nat.gcd_comm]
theorem divInt_den {n d : Int} (hd : 0 < d) : ((Rat.divInt n d).den : Int) = d / ((Nat.gcd n.natAbs d.natAbs : Nat) : Int) := by
  rw [Rat.den_divInt, if_neg (by omega), Int.gcd, Nat.gcd_comm, Int.natCast_ediv, Int.natAbs_of_nonneg (by omega)]
theorem c152 {L : Nat} {q : Nat → TypeId → Prop} {w : World} {v : Value} {n d : Int} (h : RepP L TT w v n d) (hq : Nw q w) (hL1 : 1 ≤ L) (hL : L ≤ 1073741824) :
    CallP CC 152 [v] w fun r w' => Grow w w' ∧ CanQ q w' r (Rat.divInt n d) := by
  obtain ⟨b1, s1, b2, s2, rfl, h1, h2, hd⟩ := h
  have hgpos : 0 < Nat.gcd n.natAbs d.natAbs := Nat.gcd_pos_of_pos_right _ (by omega)
  have hgle : Nat.gcd n.natAbs d.natAbs ≤ d.natAbs := Nat.gcd_le_right _ (by omega)
  have hgd : (Nat.gcd n.natAbs d.natAbs : Nat) ∣ d.natAbs := Nat.gcd_dvd_right _ _
  apply call152
  refine BoxP.mk fun g1 w1 hg1 hlt1 hlt1' hb1 => AllocP.mk ti30 fun g2 w2 hg2 hlt2 hlt2' hb2 => ?_
  have hb1' : Blk w2 g1 127 [b1, s1, b2, s2] := hb1.grow hg2
  have hg02 := hg1.trans hg2
  refine px rfl ((fld127 hb1').1 (px rfl ((fld127 hb1').2 ?_)))
  refine (c197 (q := TT) (h1.grow hg02) (h2.grow hg02) (fun _ _ => trivial) (by omega)).mono ?_
  rintro v14 w5 ⟨hg5, h14⟩
  refine AllocP.mk ti28 fun g3 w6 hg6 hlt3 hlt3' hb3 => storeZ hb3 rfl (h14.grow hg6) fun w7 hm7 hr3 => ?_
  have hs12 := hg1.size
  have hs2 := hg2.size
  have hs5 := hg5.size
  have hs6 := hg6.size
  have hs7 := hm7.upd.size
  have hg07 : Grow w w7 := Mod.new ((hg02.trans hg5).trans hg6) hm7 (by omega)
  have hb1_7 : Blk w7 g1 127 [b1, s1, b2, s2] := (hb1'.grow (hg5.trans hg6)).mod hm7 (by omega)
  have hb2_7 := (hb2.grow (hg5.trans hg6)).mod hm7 (show g2 ≠ g3 by omega)
  have hgr : ∀ w' vg, CanZ TT w' vg ((Nat.gcd n.natAbs d.natAbs : Nat) : Int) → RepZ L TT w' vg ((Nat.gcd n.natAbs d.natAbs : Nat) : Int) := fun w' vg hc => hc.rep (by
    have := h2.size
    simp only [Int.natAbs_natCast]; omega)
  refine px rfl ((fld127 hb1_7).1 (ldZ hr3 fun vg hvg => ?_))
  refine (c198 (q := q) (h1.grow hg07) (hgr _ _ hvg) (hq.grow hg07) (by omega) (by omega)).mono ?_
  rintro _ w10 ⟨hg10, r1, r2, rfl, hr1, hr2⟩
  refine px rfl (px rfl (px rfl ?_))
  refine AllocP.mk ti28 fun g4 w11 hg11 hlt4 hlt4' hb4 => AllocP.mk ti28 fun g5 w12 hg12 hlt5 hlt5' hb5 => ?_
  have hg10_12 := hg11.trans hg12
  have hs10 := hg10.size
  have hs11 := hg11.size
  have hs12' := hg12.size
  refine storeZ (hb4.grow hg12) rfl (hr1.grow hg10_12) fun w13 hm13 hR4 => ?_
  refine storeZ (hb5.mod hm13 (by omega)) rfl ((hr2.grow hg10_12).mod hm13 (by decide)) fun w14 hm14 _ => ?_
  have hR4' := hR4.mod hm14 (show g4 ≠ g5 by omega)
  have hs13 := hm13.upd.size
  have hs14 := hm14.upd.size
  have hg7_12 := hg10.trans hg10_12
  have hg0_14 : Grow w w14 := Mod.new (Mod.new (hg07.trans hg7_12) hm13 (by omega)) hm14 (by omega)
  have hb1_14 := ((hb1_7.grow hg7_12).mod hm13 (show g1 ≠ g4 by omega)).mod hm14 (show g1 ≠ g5 by omega)
  have hb2_14 := ((hb2_7.grow hg7_12).mod hm13 (show g2 ≠ g4 by omega)).mod hm14 (show g2 ≠ g5 by omega)
  have hr3_14 := ((hr3.grow hg7_12).mod hm13 (show g3 ≠ g4 by omega)).mod hm14 (show g3 ≠ g5 by omega)
  refine px rfl ((fld127 hb1_14).2 (ldZ hr3_14 fun vg2 hvg2 => ?_))
  refine (c198 (q := q) (h2.grow hg0_14) (hgr _ _ hvg2) (hq.grow hg0_14) (by omega) (by omega)).mono ?_
  rintro _ w17 ⟨hg17, r3, r4, rfl, hr3', hr4'⟩
  refine px rfl (px rfl (px rfl ?_))
  refine AllocP.mk ti28 fun g7 w18 hg18 hlt7 hlt7' hb7 => AllocP.mk ti28 fun g8 w19 hg19 hlt8 hlt8' hb8 => ?_
  have hg17_19 := hg18.trans hg19
  have hs17 := hg17.size
  have hs18 := hg18.size
  have hs19 := hg19.size
  refine storeZ (hb7.grow hg19) rfl (hr3'.grow hg17_19) fun w20 hm20 hR7 => ?_
  refine storeZ (hb8.mod hm20 (by omega)) rfl ((hr4'.grow hg17_19).mod hm20 (by decide)) fun w21 hm21 _ => ?_
  have hs20 := hm20.upd.size
  have hs21 := hm21.upd.size
  have hR7' := hR7.mod hm21 (show g7 ≠ g8 by omega)
  have hg14_19 := hg17.trans hg17_19
  have hg0_21 : Grow w w21 := Mod.new (Mod.new (hg0_14.trans hg14_19) hm20 (by omega)) hm21 (by omega)
  have hb2_21 := ((hb2_14.grow hg14_19).mod hm20 (show g2 ≠ g7 by omega)).mod hm21 (show g2 ≠ g8 by omega)
  have hR4_21 := ((hR4'.grow hg14_19).mod hm20 (show g4 ≠ g7 by omega)).mod hm21 (show g4 ≠ g8 by omega)
  rw [← divInt_num hd] at hR4_21
  rw [← divInt_den hd] at hR7'
  generalize hx : Rat.divInt n d = x at *
  have hden : x.den < 4294967296 ^ L := by
    have e := divInt_den (n := n) hd
    rw [hx] at e
    have h3 := h2.size
    have h4 : d / ((Nat.gcd n.natAbs d.natAbs : Nat) : Int) ≤ d := Int.ediv_le_self _ (by omega)
    omega
  refine ⟨fun v w => CanZ q w v x.den, fun v w => CanZ TT w v 1, fun v _ => v = .int .i64 ((x.den : Int) - 1).sign, ?_, ?_, ?_, ?_, ?_⟩
  · intro w22 hg
    exact ldZ (hR7'.grow hg) fun v hv => ⟨Grow.refl _, fun w' hg' => hv.grow hg'⟩
  · intro _ w22 hg
    refine (c96 (p := TT) (n := 1) (by decide) (fun _ _ => trivial)).mono ?_
    rintro r w23 ⟨hg23, hr⟩
    exact ⟨hg23, fun w' hg' => hr.grow hg'⟩
  · intro v31 v32 w22 hg h31 h32
    refine (c90 (L1 := L) (L2 := L) (p := TT) ((h31.mono fun _ _ _ => trivial).rep (by simpa using hden)) (h32.rep (by
      have : 4294967296 ^ 1 ≤ 4294967296 ^ L := Nat.pow_le_pow_right (by decide) hL1
      simp; omega)) (by omega)).mono ?_
    rintro r w23 ⟨hg23, rfl⟩
    exact ⟨hg23, fun _ _ => rfl⟩
  · rintro _ _ _ w22 hg _ _ rfl; exact ⟨_, rfl⟩
  · rintro _ _ _ - w22 hg _ _ rfl
    have hg22 := hg0_21.trans hg
    have hR4f := hR4_21.grow hg
    have hR7f := hR7'.grow hg
    have hb2f := hb2_21.grow hg
    refine cB (fun hc => ?_) (fun hc => ?_)
    · have hden1 : x.den = 1 := by
        have : ((x.den : Int) - 1).sign = 0 := by simpa using hc
        have := Int.sign_eq_zero_iff_zero.1 this; omega
      refine ldZ hR4f fun v35 h35 => ?_
      obtain ⟨b, s, rfl⟩ := h35.pair
      refine px rfl (storeQ hb2f rfl (x := x) (p := q) (v := .agg #[b, s, .bool false, .slice none 0 0]) ⟨b, s, _, _, rfl, h35, ?_⟩ fun w31 hm31 hres => ?_)
      · rw [if_pos hden1]
        exact ⟨false, _, [], rfl, RepW.nil, rfl, by simp, rfl⟩
      · obtain ⟨r, hr, hv⟩ := resQ hres
        exact ⟨_, _, rfl, hr, Mod.new hg22 hm31 (by omega), hv⟩
    · have hden1 : x.den ≠ 1 := by
        intro h; rw [h] at hc; simp at hc
      refine ldZ hR4f fun v37 h37 => ldZ hR7f fun v38 h38 => ?_
      obtain ⟨b, s, rfl⟩ := h37.pair
      obtain ⟨b', s', rfl⟩ := h38.pair
      refine px rfl (storeQ hb2f rfl (x := x) (p := q) (v := .agg #[b, s, b', s']) ⟨b, s, _, _, rfl, h37, ?_⟩ fun w31 hm31 hres => ?_)
      · rw [if_neg hden1]; exact h38
      · obtain ⟨r, hr, hv⟩ := resQ hres
        exact ⟨_, _, rfl, hr, Mod.new hg22 hm31 (by omega), hv⟩
theorem repQ_cells {L : Nat} {p : Nat → TypeId → Prop} {w : World} {v : Value} {x : Rat} (h : RepQ L p w v x) : ∃ b1 s1 b2 s2, v = .agg #[b1, s1, b2, s2] := by
  obtain ⟨b1, s1, b2, s2, _, _, rfl, _⟩ := h; exact ⟨_, _, _, _, rfl⟩
theorem c87 {L : Nat} {p q : Nat → TypeId → Prop} {w : World} {v : Value} {x : Rat} (h : RepQ L p w v x) (hq : Nw q w) (hL2 : 2 ≤ L) (hL : L ≤ 1073741824) :
    CallP CC 87 [v] w fun r w' => Grow w w' ∧ CanQ q w' r x := by
  apply call87
  obtain ⟨b1, s1, b2, s2, rfl⟩ := repQ_cells h
  refine BoxP.mk fun g1 w1 hg1 hlt1 hlt1' hb1 => AllocP.mk ti30 fun g2 w2 hg2 hlt2 hlt2' hb2 => ?_
  have hg02 := hg1.trans hg2
  have hs1 := hg1.size
  refine LoadP.row (cs := [b1, s1, b2, s2]) ti30 (hb1.grow hg2) rfl ((c89 (h.grow hg02) hL2).mono ?_)
  rintro r w3 ⟨hg3, n, d, hr, hx⟩
  refine (c152 hr (hq.grow (hg02.trans hg3)) (by omega) hL).mono ?_
  rintro r' w4 ⟨hg4, hr'⟩
  rw [← hx] at hr'
  refine storeQ ((hb2.grow hg3).grow hg4) rfl hr' fun w5 hm5 hres => ?_
  obtain ⟨o, ho, hv⟩ := resQ hres
  exact ⟨_, _, rfl, ho, Mod.new ((hg02.trans hg3).trans hg4) hm5 (by omega), hv⟩
theorem sign_divInt {n d : Int} (hd : 0 < d) : n.sign = (Rat.divInt n d).num.sign := by
  rw [divInt_num hd]
  have hg : 0 < Nat.gcd n.natAbs d.natAbs := Nat.gcd_pos_of_pos_right _ (by omega)
  have hdv : ((Nat.gcd n.natAbs d.natAbs : Nat) : Int) ∣ n := Int.ofNat_dvd_left.2 (Nat.gcd_dvd_left _ _)
  generalize Nat.gcd n.natAbs d.natAbs = g at *
  obtain ⟨m, rfl⟩ := hdv
  rw [Int.mul_ediv_cancel_left _ (by omega), Int.sign_mul, Int.sign_eq_one_of_pos (by omega), Int.one_mul]
theorem c42 {L : Nat} {p : Nat → TypeId → Prop} {w : World} {v : Value} {x : Rat} (h : RepQ L p w v x) (hL2 : 2 ≤ L) :
    CallP CC 42 [v] w fun r w' => Grow w w' ∧ r = .int .i64 x.num.sign := by
  apply call42
  obtain ⟨b1, s1, b2, s2, rfl⟩ := repQ_cells h
  refine BoxP.mk fun g1 w1 hg1 hlt1 hlt1' hb1 => ?_
  refine LoadP.row (cs := [b1, s1, b2, s2]) ti30 hb1 rfl ((c89 (h.grow hg1) hL2).mono ?_)
  rintro r w3 ⟨hg3, n, d, hr, hx⟩
  obtain ⟨c1, t1, c2, t2, rfl, h1, h2, hd⟩ := hr
  refine px rfl ((c103 h1).mono ?_)
  rintro r' w4 ⟨hg4, rfl⟩
  exact ⟨(hg1.trans hg3).trans hg4, by rw [hx, sign_divInt hd]⟩
theorem c36 {q : Nat → TypeId → Prop} {w : World} {n : Int} (hn : -9223372036854775808 ≤ n ∧ n < 9223372036854775808) (hq : Nw q w) :
    CallP CC 36 [.int .i64 n] w fun r w' => Grow w w' ∧ CanQ q w' r (n : Rat) := by
  apply call36
  refine AllocP.mk ti30 fun g2 w2 hg2 hlt2 hlt2' hb2 => (c96 hn (hq.grow hg2)).mono ?_
  rintro r w3 ⟨hg3, hr⟩
  obtain ⟨b, s, rfl⟩ := hr.pair
  refine px rfl (storeQ (hb2.grow hg3) rfl (x := (n : Rat)) (p := q) (v := .agg #[b, s, .bool false, .slice none 0 0]) ⟨b, s, _, _, rfl, hr, ?_⟩ fun w5 hm5 hres => ?_)
  · exact ⟨false, _, [], rfl, RepW.nil, rfl, by simp, rfl⟩
  · obtain ⟨o, ho, hv⟩ := resQ hres
    exact ⟨_, _, rfl, ho, Mod.new (hg2.trans hg3) hm5 hlt2, hv⟩
end Go.Proofs.YtaajkcngcalgoaaGreat
namespace Go.Proofs.YtaajkcngcalgoaaGreat
open Go Go.Vc
attribute [local irreducible] Tryz.prog
theorem mul_size {L : Nat} {x y : Int} (hx : x.natAbs < 4294967296 ^ L) (hy : y.natAbs < 4294967296 ^ L) : (x * y).natAbs < 4294967296 ^ (2 * L) := by
  rw [Int.natAbs_mul, Nat.two_mul, Nat.pow_add]
  exact Nat.mul_lt_mul'' hx hy
theorem add_size {L : Nat} {x y : Int} (hx : x.natAbs < 4294967296 ^ L) (hy : y.natAbs < 4294967296 ^ L) : (x + y).natAbs < 4294967296 ^ (L + 1) := by
  have := Int.natAbs_add_le x y
  rw [Nat.pow_succ]; omega
theorem sub_size {L : Nat} {x y : Int} (hx : x.natAbs < 4294967296 ^ L) (hy : y.natAbs < 4294967296 ^ L) : (x - y).natAbs < 4294967296 ^ (L + 1) := by
  have := Int.natAbs_sub_le x y
  rw [Nat.pow_succ]; omega
theorem c169 {L : Nat} {w : World} {a b : Value} {n1 d1 n2 d2 : Int} (ha : RepP L TT w a n1 d1) (hb : RepP L TT w b n2 d2) (hL2 : 2 ≤ L) (hL : L ≤ 1073741824) :
    CallP CC 169 [a, b] w fun r w' => Grow w w' ∧ RepP (2 * L + 1) TT w' r (n1 * d2 + n2 * d1) (d1 * d2) := by
  obtain ⟨b1, s1, b2, s2, rfl, h1, h2, hd1⟩ := ha
  obtain ⟨c1, t1, c2, t2, rfl, k1, k2, hd2⟩ := hb
  apply call169
  refine BoxP.mk fun g2 w1 hg1 hlt2 hlt2' hb2 => BoxP.mk fun g3 w2 hg2 hlt3 hlt3' hb3 => AllocP.mk ti127 fun g4 w3 hg3 hlt4 hlt4' hb4 => ?_
  have hb2' : Blk w3 g2 127 [b1, s1, b2, s2] := (hb2.grow hg2).grow hg3
  have hb3' : Blk w3 g3 127 [c1, t1, c2, t2] := hb3.grow hg3
  have hg03 := (hg1.trans hg2).trans hg3
  have h1' := h1.grow hg03
  have h2' := h2.grow hg03
  have k1' := k1.grow hg03
  have k2' := k2.grow hg03
  have hs1 := hg1.size
  have hs2 := hg2.size
  have hlt04 : w.heap.size ≤ g4 := by omega
  have hne2 : g2 ≠ g4 := by omega
  have hne3 : g3 ≠ g4 := by omega
  refine ⟨Mod g4 127, fun l w => match l with | [] => Blk w g4 127 [.bool false, .slice none 0 0, .bool false, .slice none 0 0] | _ => ResP (2 * L + 1) w g4 (n1 * d2 + n2 * d1) (d1 * d2), Mod.grow, Mod.trans, fun w' h => hb4.grow h,
    fun v _ => v = .agg #[b1, s1], fun v _ => v = .agg #[c2, t2], fun v w => RepZ (2 * L) TT w v (n1 * d2), fun v _ => v = .agg #[c1, t1], fun v _ => v = .agg #[b2, s2], fun v w => RepZ (2 * L) TT w v (n2 * d1), fun v w => RepZ (2 * L + 1) TT w v ((n1 * d2) + (n2 * d1)), fun v _ => v = .agg #[b2, s2], fun v _ => v = .agg #[c2, t2], fun v w => RepZ (2 * L) TT w v (d1 * d2), fun _ _ => True,
    fun _ _ => ⟨_, rfl⟩, ?_, fun _ _ _ => ⟨_, rfl⟩, ?_, ?_, fun _ _ _ _ _ => ⟨_, rfl⟩, ?_, fun _ _ _ _ _ _ => ⟨_, rfl⟩, ?_, ?_, ?_, fun _ _ _ _ _ _ _ _ _ => ⟨_, rfl⟩, ?_, fun _ _ _ _ _ _ _ _ _ _ => ⟨_, rfl⟩, ?_, ?_, ?_, ?_, ?_⟩
  · intro  w4 hm
    exact (fld127 (hb2'.mod hm hne2)).1 ⟨Grow.refl _, fun _ _ => rfl⟩
  · intro _ w4 hm
    exact (fld127 (hb3'.mod hm hne3)).2 ⟨Grow.refl _, fun _ _ => rfl⟩
  · rintro _ _ w4 hm rfl rfl
    refine (c91 (q := TT) (h1'.mod hm (by decide)) (k2'.mod hm (by decide)) (fun _ _ => trivial) (by omega)).mono ?_
    rintro r w5 ⟨hg5, hr⟩
    exact ⟨hg5, fun w6 hm6 => (hr.rep (mul_size h1.size k2.size)).mod hm6 (by decide)⟩
  · intro _ _ _ w4 hm
    exact (fld127 (hb3'.mod hm hne3)).1 ⟨Grow.refl _, fun _ _ => rfl⟩
  · intro _ _ _ _ w4 hm
    exact (fld127 (hb2'.mod hm hne2)).2 ⟨Grow.refl _, fun _ _ => rfl⟩
  · rintro _ _ v2 _ _ w4 hm rfl rfl e2 rfl rfl
    refine (c91 (q := TT) (k1'.mod hm (by decide)) (h2'.mod hm (by decide)) (fun _ _ => trivial) (by omega)).mono ?_
    rintro r w5 ⟨hg5, hr⟩
    exact ⟨hg5, fun w6 hm6 => (hr.rep (mul_size k1.size h2.size)).mod hm6 (by decide)⟩
  · rintro _ _ v2 _ _ v5 w4 hm rfl rfl e2 rfl rfl e5
    refine (c170 (q := TT) e2 e5 (fun _ _ => trivial) (by omega)).mono ?_
    rintro r w5 ⟨hg5, hr⟩
    exact ⟨hg5, fun w6 hm6 => (hr.rep (add_size e2.size e5.size)).mod hm6 (by decide)⟩
  · intro _ _ _ _ _ _ _ w4 hm
    exact (fld127 (hb2'.mod hm hne2)).2 ⟨Grow.refl _, fun _ _ => rfl⟩
  · intro _ _ _ _ _ _ _ _ w4 hm
    exact (fld127 (hb3'.mod hm hne3)).2 ⟨Grow.refl _, fun _ _ => rfl⟩
  · rintro _ _ v2 _ _ v5 v6 _ _ w4 hm rfl rfl e2 rfl rfl e5 e6 rfl rfl
    refine (c91 (q := TT) (h2'.mod hm (by decide)) (k2'.mod hm (by decide)) (fun _ _ => trivial) (by omega)).mono ?_
    rintro r w5 ⟨hg5, hr⟩
    exact ⟨hg5, fun w6 hm6 => (hr.rep (mul_size h2.size k2.size)).mod hm6 (by decide)⟩
  · rintro _ _ v2 _ _ v5 v6 _ _ v9 w4 hm rfl rfl e2 rfl rfl e5 e6 rfl rfl e9
    obtain ⟨b, s, rfl⟩ := e6.pair
    obtain ⟨b', s', rfl⟩ := e9.pair
    exact ⟨_, rfl⟩
  · rintro _ _ v2 _ _ v5 v6 _ _ v9 w4 hm hL' rfl rfl e2 rfl rfl e5 e6 rfl rfl e9
    obtain ⟨b, s, rfl⟩ := e6.pair
    obtain ⟨b', s', rfl⟩ := e9.pair
    exact storeP hL' rfl (v := .agg #[b, s, b', s']) ⟨b, s, b', s', rfl, e6, (e9.le (by omega)), Int.mul_pos hd1 hd2⟩ fun w5 hm5 hr => ⟨hm5, fun _ _ => trivial, fun w6 hg => hr.grow hg⟩
  · intro _ _ _ _ _ _ _ _ _ _ _ _ w4 hm _ _ _ _ _ _ _ _ _ _ _ hL'
    obtain ⟨r, hr, hv⟩ := resP hL'
    exact ⟨_, _, rfl, hr, Mod.new hg03 hm hlt04, hv⟩
theorem c171 {L : Nat} {w : World} {a b : Value} {n1 d1 n2 d2 : Int} (ha : RepP L TT w a n1 d1) (hb : RepP L TT w b n2 d2) (hL2 : 2 ≤ L) (hL : L ≤ 1073741824) :
    CallP CC 171 [a, b] w fun r w' => Grow w w' ∧ RepP (2 * L + 1) TT w' r (n1 * d2 - n2 * d1) (d1 * d2) := by
  obtain ⟨b1, s1, b2, s2, rfl, h1, h2, hd1⟩ := ha
  obtain ⟨c1, t1, c2, t2, rfl, k1, k2, hd2⟩ := hb
  apply call171
  refine BoxP.mk fun g2 w1 hg1 hlt2 hlt2' hb2 => BoxP.mk fun g3 w2 hg2 hlt3 hlt3' hb3 => AllocP.mk ti127 fun g4 w3 hg3 hlt4 hlt4' hb4 => ?_
  have hb2' : Blk w3 g2 127 [b1, s1, b2, s2] := (hb2.grow hg2).grow hg3
  have hb3' : Blk w3 g3 127 [c1, t1, c2, t2] := hb3.grow hg3
  have hg03 := (hg1.trans hg2).trans hg3
  have h1' := h1.grow hg03
  have h2' := h2.grow hg03
  have k1' := k1.grow hg03
  have k2' := k2.grow hg03
  have hs1 := hg1.size
  have hs2 := hg2.size
  have hlt04 : w.heap.size ≤ g4 := by omega
  have hne2 : g2 ≠ g4 := by omega
  have hne3 : g3 ≠ g4 := by omega
  refine ⟨Mod g4 127, fun l w => match l with | [] => Blk w g4 127 [.bool false, .slice none 0 0, .bool false, .slice none 0 0] | _ => ResP (2 * L + 1) w g4 (n1 * d2 - n2 * d1) (d1 * d2), Mod.grow, Mod.trans, fun w' h => hb4.grow h,
    fun v _ => v = .agg #[b1, s1], fun v _ => v = .agg #[c2, t2], fun v w => RepZ (2 * L) TT w v (n1 * d2), fun v _ => v = .agg #[c1, t1], fun v _ => v = .agg #[b2, s2], fun v w => RepZ (2 * L) TT w v (n2 * d1), fun v w => RepZ (2 * L + 1) TT w v ((n1 * d2) - (n2 * d1)), fun v _ => v = .agg #[b2, s2], fun v _ => v = .agg #[c2, t2], fun v w => RepZ (2 * L) TT w v (d1 * d2), fun _ _ => True,
    fun _ _ => ⟨_, rfl⟩, ?_, fun _ _ _ => ⟨_, rfl⟩, ?_, ?_, fun _ _ _ _ _ => ⟨_, rfl⟩, ?_, fun _ _ _ _ _ _ => ⟨_, rfl⟩, ?_, ?_, ?_, fun _ _ _ _ _ _ _ _ _ => ⟨_, rfl⟩, ?_, fun _ _ _ _ _ _ _ _ _ _ => ⟨_, rfl⟩, ?_, ?_, ?_, ?_, ?_⟩
  · intro  w4 hm
    exact (fld127 (hb2'.mod hm hne2)).1 ⟨Grow.refl _, fun _ _ => rfl⟩
  · intro _ w4 hm
    exact (fld127 (hb3'.mod hm hne3)).2 ⟨Grow.refl _, fun _ _ => rfl⟩
  · rintro _ _ w4 hm rfl rfl
    refine (c91 (q := TT) (h1'.mod hm (by decide)) (k2'.mod hm (by decide)) (fun _ _ => trivial) (by omega)).mono ?_
    rintro r w5 ⟨hg5, hr⟩
    exact ⟨hg5, fun w6 hm6 => (hr.rep (mul_size h1.size k2.size)).mod hm6 (by decide)⟩
  · intro _ _ _ w4 hm
    exact (fld127 (hb3'.mod hm hne3)).1 ⟨Grow.refl _, fun _ _ => rfl⟩
  · intro _ _ _ _ w4 hm
    exact (fld127 (hb2'.mod hm hne2)).2 ⟨Grow.refl _, fun _ _ => rfl⟩
  · rintro _ _ v2 _ _ w4 hm rfl rfl e2 rfl rfl
    refine (c91 (q := TT) (k1'.mod hm (by decide)) (h2'.mod hm (by decide)) (fun _ _ => trivial) (by omega)).mono ?_
    rintro r w5 ⟨hg5, hr⟩
    exact ⟨hg5, fun w6 hm6 => (hr.rep (mul_size k1.size h2.size)).mod hm6 (by decide)⟩
  · rintro _ _ v2 _ _ v5 w4 hm rfl rfl e2 rfl rfl e5
    refine (c154 (q := TT) e2 e5 (fun _ _ => trivial) (by omega)).mono ?_
    rintro r w5 ⟨hg5, hr⟩
    exact ⟨hg5, fun w6 hm6 => (hr.rep (sub_size e2.size e5.size)).mod hm6 (by decide)⟩
  · intro _ _ _ _ _ _ _ w4 hm
    exact (fld127 (hb2'.mod hm hne2)).2 ⟨Grow.refl _, fun _ _ => rfl⟩
  · intro _ _ _ _ _ _ _ _ w4 hm
    exact (fld127 (hb3'.mod hm hne3)).2 ⟨Grow.refl _, fun _ _ => rfl⟩
  · rintro _ _ v2 _ _ v5 v6 _ _ w4 hm rfl rfl e2 rfl rfl e5 e6 rfl rfl
    refine (c91 (q := TT) (h2'.mod hm (by decide)) (k2'.mod hm (by decide)) (fun _ _ => trivial) (by omega)).mono ?_
    rintro r w5 ⟨hg5, hr⟩
    exact ⟨hg5, fun w6 hm6 => (hr.rep (mul_size h2.size k2.size)).mod hm6 (by decide)⟩
  · rintro _ _ v2 _ _ v5 v6 _ _ v9 w4 hm rfl rfl e2 rfl rfl e5 e6 rfl rfl e9
    obtain ⟨b, s, rfl⟩ := e6.pair
    obtain ⟨b', s', rfl⟩ := e9.pair
    exact ⟨_, rfl⟩
  · rintro _ _ v2 _ _ v5 v6 _ _ v9 w4 hm hL' rfl rfl e2 rfl rfl e5 e6 rfl rfl e9
    obtain ⟨b, s, rfl⟩ := e6.pair
    obtain ⟨b', s', rfl⟩ := e9.pair
    exact storeP hL' rfl (v := .agg #[b, s, b', s']) ⟨b, s, b', s', rfl, e6, (e9.le (by omega)), Int.mul_pos hd1 hd2⟩ fun w5 hm5 hr => ⟨hm5, fun _ _ => trivial, fun w6 hg => hr.grow hg⟩
  · intro _ _ _ _ _ _ _ _ _ _ _ _ w4 hm _ _ _ _ _ _ _ _ _ _ _ hL'
    obtain ⟨r, hr, hv⟩ := resP hL'
    exact ⟨_, _, rfl, hr, Mod.new hg03 hm hlt04, hv⟩
theorem c172 {L : Nat} {w : World} {a b : Value} {n1 d1 n2 d2 : Int} (ha : RepP L TT w a n1 d1) (hb : RepP L TT w b n2 d2) (hL2 : 2 ≤ L) (hL : L ≤ 1073741824) :
    CallP CC 172 [a, b] w fun r w' => Grow w w' ∧ RepP (2 * L) TT w' r (n1 * n2) (d1 * d2) := by
  obtain ⟨b1, s1, b2, s2, rfl, h1, h2, hd1⟩ := ha
  obtain ⟨c1, t1, c2, t2, rfl, k1, k2, hd2⟩ := hb
  apply call172
  refine BoxP.mk fun g2 w1 hg1 hlt2 hlt2' hb2 => BoxP.mk fun g3 w2 hg2 hlt3 hlt3' hb3 => AllocP.mk ti127 fun g4 w3 hg3 hlt4 hlt4' hb4 => ?_
  have hb2' : Blk w3 g2 127 [b1, s1, b2, s2] := (hb2.grow hg2).grow hg3
  have hb3' : Blk w3 g3 127 [c1, t1, c2, t2] := hb3.grow hg3
  have hg03 := (hg1.trans hg2).trans hg3
  have h1' := h1.grow hg03
  have h2' := h2.grow hg03
  have k1' := k1.grow hg03
  have k2' := k2.grow hg03
  have hs1 := hg1.size
  have hs2 := hg2.size
  have hlt04 : w.heap.size ≤ g4 := by omega
  have hne2 : g2 ≠ g4 := by omega
  have hne3 : g3 ≠ g4 := by omega
  refine ⟨Mod g4 127, fun l w => match l with | [] => Blk w g4 127 [.bool false, .slice none 0 0, .bool false, .slice none 0 0] | _ => ResP (2 * L) w g4 (n1 * n2) (d1 * d2), Mod.grow, Mod.trans, fun w' h => hb4.grow h,
    fun v _ => v = .agg #[b1, s1], fun v _ => v = .agg #[c1, t1], fun v w => RepZ (2 * L) TT w v (n1 * n2), fun v _ => v = .agg #[b2, s2], fun v _ => v = .agg #[c2, t2], fun v w => RepZ (2 * L) TT w v (d1 * d2), fun _ _ => True,
    fun _ _ => ⟨_, rfl⟩, ?_, fun _ _ _ => ⟨_, rfl⟩, ?_, ?_, fun _ _ _ _ _ => ⟨_, rfl⟩, ?_, fun _ _ _ _ _ _ => ⟨_, rfl⟩, ?_, ?_, ?_, ?_, ?_⟩
  · intro  w4 hm
    exact (fld127 (hb2'.mod hm hne2)).1 ⟨Grow.refl _, fun _ _ => rfl⟩
  · intro _ w4 hm
    exact (fld127 (hb3'.mod hm hne3)).1 ⟨Grow.refl _, fun _ _ => rfl⟩
  · rintro _ _ w4 hm rfl rfl
    refine (c91 (q := TT) (h1'.mod hm (by decide)) (k1'.mod hm (by decide)) (fun _ _ => trivial) (by omega)).mono ?_
    rintro r w5 ⟨hg5, hr⟩
    exact ⟨hg5, fun w6 hm6 => (hr.rep (mul_size h1.size k1.size)).mod hm6 (by decide)⟩
  · intro _ _ _ w4 hm
    exact (fld127 (hb2'.mod hm hne2)).2 ⟨Grow.refl _, fun _ _ => rfl⟩
  · intro _ _ _ _ w4 hm
    exact (fld127 (hb3'.mod hm hne3)).2 ⟨Grow.refl _, fun _ _ => rfl⟩
  · rintro _ _ v2 _ _ w4 hm rfl rfl e2 rfl rfl
    refine (c91 (q := TT) (h2'.mod hm (by decide)) (k2'.mod hm (by decide)) (fun _ _ => trivial) (by omega)).mono ?_
    rintro r w5 ⟨hg5, hr⟩
    exact ⟨hg5, fun w6 hm6 => (hr.rep (mul_size h2.size k2.size)).mod hm6 (by decide)⟩
  · rintro _ _ v2 _ _ v5 w4 hm rfl rfl e2 rfl rfl e5
    obtain ⟨b, s, rfl⟩ := e2.pair
    obtain ⟨b', s', rfl⟩ := e5.pair
    exact ⟨_, rfl⟩
  · rintro _ _ v2 _ _ v5 w4 hm hL' rfl rfl e2 rfl rfl e5
    obtain ⟨b, s, rfl⟩ := e2.pair
    obtain ⟨b', s', rfl⟩ := e5.pair
    exact storeP hL' rfl (v := .agg #[b, s, b', s']) ⟨b, s, b', s', rfl, e2, e5, Int.mul_pos hd1 hd2⟩ fun w5 hm5 hr => ⟨hm5, fun _ _ => trivial, fun w6 hg => hr.grow hg⟩
  · intro _ _ _ _ _ _ _ _ w4 hm _ _ _ _ _ _ _ hL'
    obtain ⟨r, hr, hv⟩ := resP hL'
    exact ⟨_, _, rfl, hr, Mod.new hg03 hm hlt04, hv⟩
theorem c173 {L : Nat} {w : World} {a b : Value} {n1 d1 n2 d2 : Int} (ha : RepP L TT w a n1 d1) (hb : RepP L TT w b n2 d2) (hL2 : 2 ≤ L) (hL : L ≤ 1073741824) (hn2 : n2 ≠ 0) :
    CallP CC 173 [a, b] w fun r w' => Grow w w' ∧ ∃ n d, RepP (2 * L) TT w' r n d ∧ Rat.divInt (n1 * d2) (d1 * n2) = Rat.divInt n d := by
  obtain ⟨b1, s1, b2, s2, rfl, h1, h2, hd1⟩ := ha
  obtain ⟨c1, t1, c2, t2, rfl, k1, k2, hd2⟩ := hb
  apply call173
  refine BoxP.mk fun g2 w1 hg1 hlt2 hlt2' hb2 => BoxP.mk fun g3 w2 hg2 hlt3 hlt3' hb3 => AllocP.mk ti127 fun g4 w3 hg3 hlt4 hlt4' hb4 => ?_
  have hb2' : Blk w3 g2 127 [b1, s1, b2, s2] := (hb2.grow hg2).grow hg3
  have hb3' : Blk w3 g3 127 [c1, t1, c2, t2] := hb3.grow hg3
  have hg03 := (hg1.trans hg2).trans hg3
  have h1' := h1.grow hg03
  have h2' := h2.grow hg03
  have k1' := k1.grow hg03
  have k2' := k2.grow hg03
  have hs1 := hg1.size
  have hs2 := hg2.size
  have hlt04 : w.heap.size ≤ g4 := by omega
  have hne2 : g2 ≠ g4 := by omega
  have hne3 : g3 ≠ g4 := by omega
  refine ⟨Mod g4 127, fun l w => match l with | [] => Blk w g4 127 [.bool false, .slice none 0 0, .bool false, .slice none 0 0] | _ => ∃ n d, ResP (2 * L) w g4 n d ∧ Rat.divInt (n1 * d2) (d1 * n2) = Rat.divInt n d, Mod.grow, Mod.trans, fun w' h => hb4.grow h,
    fun v _ => v = .agg #[b1, s1], fun v _ => v = .agg #[c2, t2], fun v w => RepZ (2 * L) TT w v (n1 * d2), fun v _ => v = .agg #[b2, s2], fun v _ => v = .agg #[c1, t1], fun v w => RepZ (2 * L) TT w v (d1 * n2), fun v w => ∃ n d, RepP (2 * L) TT w v n d ∧ Rat.divInt (n1 * d2) (d1 * n2) = Rat.divInt n d, fun _ _ => True,
    fun _ _ => ⟨_, rfl⟩, ?_, fun _ _ _ => ⟨_, rfl⟩, ?_, ?_, fun _ _ _ _ _ => ⟨_, rfl⟩, ?_, fun _ _ _ _ _ _ => ⟨_, rfl⟩, ?_, ?_, ?_, ?_, ?_, ?_⟩
  · intro  w4 hm
    exact (fld127 (hb2'.mod hm hne2)).1 ⟨Grow.refl _, fun _ _ => rfl⟩
  · intro _ w4 hm
    exact (fld127 (hb3'.mod hm hne3)).2 ⟨Grow.refl _, fun _ _ => rfl⟩
  · rintro _ _ w4 hm rfl rfl
    refine (c91 (q := TT) (h1'.mod hm (by decide)) (k2'.mod hm (by decide)) (fun _ _ => trivial) (by omega)).mono ?_
    rintro r w5 ⟨hg5, hr⟩
    exact ⟨hg5, fun w6 hm6 => (hr.rep (mul_size h1.size k2.size)).mod hm6 (by decide)⟩
  · intro _ _ _ w4 hm
    exact (fld127 (hb2'.mod hm hne2)).2 ⟨Grow.refl _, fun _ _ => rfl⟩
  · intro _ _ _ _ w4 hm
    exact (fld127 (hb3'.mod hm hne3)).1 ⟨Grow.refl _, fun _ _ => rfl⟩
  · rintro _ _ v2 _ _ w4 hm rfl rfl e2 rfl rfl
    refine (c91 (q := TT) (h2'.mod hm (by decide)) (k1'.mod hm (by decide)) (fun _ _ => trivial) (by omega)).mono ?_
    rintro r w5 ⟨hg5, hr⟩
    exact ⟨hg5, fun w6 hm6 => (hr.rep (mul_size h2.size k1.size)).mod hm6 (by decide)⟩
  · rintro _ _ v2 _ _ v5 w4 hm rfl rfl e2 rfl rfl e5
    obtain ⟨b, s, rfl⟩ := e2.pair
    obtain ⟨b', s', rfl⟩ := e5.pair
    exact ⟨_, rfl⟩
  · rintro _ _ v2 _ _ v5 w4 hm rfl rfl e2 rfl rfl e5
    obtain ⟨b, s, rfl⟩ := e2.pair
    obtain ⟨b', s', rfl⟩ := e5.pair
    refine (c89 (L := 2 * L) (p := TT) (x := Rat.divInt (n1 * d2) (d1 * n2)) ⟨b, s, b', s', _, _, rfl, e2, e5, by rw [if_neg (Int.mul_ne_zero (by omega) hn2)]⟩ (by omega)).mono ?_
    rintro r w5 ⟨hg5, n, d, hr, hx⟩
    exact ⟨hg5, fun w6 hm6 => ⟨n, d, hr.mod hm6 (by decide), hx⟩⟩
  · rintro _ _ v2 _ _ v5 v6 w4 hm hL' rfl rfl e2 rfl rfl e5 e6
    obtain ⟨n, d, hr, hx⟩ := e6
    exact storeP hL' rfl hr fun w5 hm5 hr => ⟨hm5, fun _ _ => trivial, fun w6 hg => ⟨n, d, hr.grow hg, hx⟩⟩
  · intro _ _ _ _ _ _ _ _ _ w4 hm _ _ _ _ _ _ _ _ hL'
    obtain ⟨n, d, hp, hx⟩ := hL'
    obtain ⟨r, hr, hv⟩ := resP hp
    exact ⟨_, _, rfl, hr, Mod.new hg03 hm hlt04, n, d, hv, hx⟩
end Go.Proofs.YtaajkcngcalgoaaGreat
namespace Go.Proofs.YtaajkcngcalgoaaGreat
open Go Go.Vc
theorem mt219 : MapTy Tryz.prog 219 9 218 .string := MapTy.of_chk (by kernel_rfl)
attribute [local irreducible] Tryz.prog
def kinds : Array MapEntry := #[⟨.string ⟨#[97, 100, 100]⟩, .agg #[.func (.func 169) #[] #[]], 0⟩, ⟨.string ⟨#[115, 117, 98]⟩, .agg #[.func (.func 171) #[] #[]], 1⟩, ⟨.string ⟨#[109, 117, 108]⟩, .agg #[.func (.func 172) #[] #[]], 2⟩, ⟨.string ⟨#[100, 105, 118]⟩, .agg #[.func (.func 173) #[] #[]], 3⟩]
theorem c102 {L : Nat} {p q : Nat → TypeId → Prop} {w : World} {a b : Value} {x y z : Rat} {key : ByteArray} {i f : Nat}
    (hkey : Instr.findNow .string (.string key) kinds.toList 0 = some (some (i, .agg #[.func (.func f) #[] #[]]))) (hB : hasB f = true)
    (hcl : ∀ (w : World) (a b : Value) (n1 d1 n2 d2 : Int), RepP L TT w a n1 d1 → RepP L TT w b n2 d2 → x = Rat.divInt n1 d1 → y = Rat.divInt n2 d2 →
      CallP CC f [a, b] w fun r w' => Grow w w' ∧ ∃ n d, RepP (2 * L + 1) TT w' r n d ∧ z = Rat.divInt n d)
    (ha : RepQ L p w a x) (hb : RepQ L p w b y) (hq : Nw q w) (hL2 : 2 ≤ L) (hL : L ≤ 268435456) :
    CallP CC 102 [.string key, a, b] w fun r w' => Grow w w' ∧ CanQ q w' r z := by
  obtain ⟨b1, s1, b2, s2, rfl⟩ := repQ_cells ha
  obtain ⟨c1, t1, c2, t2, rfl⟩ := repQ_cells hb
  have haT := ha.tt
  have hbT := hb.tt
  apply call102
  refine BoxP.mk fun g4 w1 hg1 hlt4 hlt4' hb4 => BoxP.mk fun g5 w2 hg2 hlt5 hlt5' hb5 => AllocP.mk ti30 fun g6 w3 hg3 hlt6 hlt6' hb6 => MakeMapP.mk fun gm w4 hg4 hltm hltm' hm0 => ?_
  have hs1 := hg1.size
  have hs2 := hg2.size
  have hs3 := hg3.size
  refine px rfl (InsertP.new (C := CC) mt219 hm0 rfl fun w5 hu5 hm5 => px rfl (InsertP.new (C := CC) mt219 hm5 rfl fun w6 hu6 hm6 => px rfl (InsertP.new (C := CC) mt219 hm6 rfl fun w7 hu7 hm7 => px rfl (InsertP.new (C := CC) mt219 hm7 rfl fun w8 hu8 hm8 => ?_))))
  have hu : Upd (· = gm) w4 w8 := ((hu5.trans hu6).trans hu7).trans hu8
  have hg04 := ((hg1.trans hg2).trans hg3).trans hg4
  have hltg : w.heap.size ≤ gm := by omega
  have hg08 : Grow w w8 := hg04.upd_new hu (fun k hk => by subst hk; exact hltg)
  have hb4' : Blk w8 g4 30 [b1, s1, b2, s2] := (((hb4.grow hg2).grow hg3).grow hg4).upd hu (by omega)
  have hb5' : Blk w8 g5 30 [c1, t1, c2, t2] := ((hb5.grow hg3).grow hg4).upd hu (by omega)
  have hb6' := (hb6.grow hg4).upd hu (show g6 ≠ gm by omega)
  have hm : MapObj w8 gm kinds 4 := hm8
  have ha8 := haT.grow hg08
  have hb8 := hbT.grow hg08
  have hlt06 : w.heap.size ≤ g6 := by omega
  have hne4 : g4 ≠ g6 := by omega
  have hne5 : g5 ≠ g6 := by omega
  refine ⟨Mod g6 30, fun l w => match l with | [] => Blk w g6 30 [.bool false, .slice none 0 0, .bool false, .slice none 0 0] | _ => ResQ q w g6 z, Mod.grow, Mod.trans, fun w' h => hb6'.grow h,
    fun v _ => v = .agg #[.func (.func f) #[] #[]], fun v _ => v = .agg #[b1, s1, b2, s2], fun v w => ∃ n d, RepP L TT w v n d ∧ x = Rat.divInt n d, fun v _ => v = .agg #[c1, t1, c2, t2], fun v w => ∃ n d, RepP L TT w v n d ∧ y = Rat.divInt n d,
    fun v w => ∃ n d, RepP (2 * L + 1) TT w v n d ∧ z = Rat.divInt n d, fun v w => CanQ q w v z, fun _ _ => True, ?_, ?_, ?_, ?_, ?_, ?_, ?_, ?_, ?_, ?_⟩
  · intro w9 hm9
    exact LookupP.found (C := CC) mt219 (hm.upd hm9.upd (show gm ≠ g6 by omega)) hkey ⟨Grow.refl _, fun _ _ => rfl⟩
  · rintro _ w9 hm9 rfl; exact ⟨_, rfl⟩
  · intro _ w9 hm9
    exact LoadP.row (cs := [b1, s1, b2, s2]) ti30 (hb4'.mod hm9 hne4) rfl ⟨Grow.refl _, fun _ _ => rfl⟩
  · rintro _ _ w9 hm9 rfl
    refine (c89 (ha8.mod hm9 (by decide)) hL2).mono ?_
    rintro r w10 ⟨hg10, n, d, hr, hx⟩
    exact ⟨hg10, fun w11 hm11 => ⟨n, d, hr.mod hm11 (by decide), hx⟩⟩
  · intro _ _ _ w9 hm9
    exact LoadP.row (cs := [c1, t1, c2, t2]) ti30 (hb5'.mod hm9 hne5) rfl ⟨Grow.refl _, fun _ _ => rfl⟩
  · rintro _ _ _ _ w9 hm9 _ _ rfl
    refine (c89 (hb8.mod hm9 (by decide)) hL2).mono ?_
    rintro r w10 ⟨hg10, n, d, hr, hx⟩
    exact ⟨hg10, fun w11 hm11 => ⟨n, d, hr.mod hm11 (by decide), hx⟩⟩
  · rintro _ _ v19 _ v21 w9 hm9 rfl _ ⟨n1, d1, h1, e1⟩ _ ⟨n2, d2, h2, e2⟩
    refine callV.func hB ((hcl w9 v19 v21 n1 d1 n2 d2 h1 h2 e1 e2).mono ?_)
    rintro r w10 ⟨hg10, n, d, hr, hx⟩
    exact ⟨hg10, fun w11 hm11 => ⟨n, d, hr.mod hm11 (by decide), hx⟩⟩
  · rintro _ _ _ _ _ v22 w9 hm9 _ _ _ _ _ ⟨n, d, hr, hx⟩
    refine (c152 hr (hq.grow (Mod.new hg08 hm9 hlt06)) (by omega) (by omega)).mono ?_
    rintro r w10 ⟨hg10, hc⟩
    rw [← hx] at hc
    exact ⟨hg10, fun w11 hm11 => hc.mod hm11 (by decide)⟩
  · intro _ _ _ _ _ _ v23 w9 hm9 hL' _ _ _ _ _ _ h23
    exact storeQ hL' rfl h23 fun w10 hm10 hr => ⟨hm10, fun _ _ => trivial, fun w11 hg => hr.grow hg⟩
  · intro _ _ _ _ _ _ _ _ _ w9 hm9 _ _ _ _ _ _ _ _ hL'
    obtain ⟨r, hr, hv⟩ := resQ hL'
    exact ⟨_, _, rfl, hr, Mod.new hg08 hm9 hlt06, hv⟩
theorem RepP.le {L L' : Nat} {p : Nat → TypeId → Prop} {w : World} {v : Value} {n d : Int} (h : RepP L p w v n d) (hl : L ≤ L') : RepP L' p w v n d := by
  obtain ⟨b1, s1, b2, s2, rfl, h1, h2, hd⟩ := h
  exact ⟨b1, s1, b2, s2, rfl, h1.le hl, h2.le hl, hd⟩
theorem c41 {L : Nat} {p q : Nat → TypeId → Prop} {w : World} {a b : Value} {x y : Rat} (ha : RepQ L p w a x) (hb : RepQ L p w b y) (hq : Nw q w) (hL2 : 2 ≤ L) (hL : L ≤ 268435456) :
    CallP CC 41 [a, b] w fun r w' => Grow w w' ∧ CanQ q w' r (x + y) := by
  obtain ⟨b1, s1, b2, s2, rfl⟩ := repQ_cells ha
  obtain ⟨c1, t1, c2, t2, rfl⟩ := repQ_cells hb
  apply call41
  refine BoxP.mk fun g2 w1 hg1 hlt2 hlt2' hb2 => BoxP.mk fun g3 w2 hg2 hlt3 hlt3' hb3 => AllocP.mk ti30 fun g4 w3 hg3 hlt4 hlt4' hb4 => ?_
  have hg03 := (hg1.trans hg2).trans hg3
  have hs1 := hg1.size
  have hs2 := hg2.size
  refine LoadP.row (cs := [b1, s1, b2, s2]) ti30 ((hb2.grow hg2).grow hg3) rfl (LoadP.row (cs := [c1, t1, c2, t2]) ti30 (hb3.grow hg3) rfl ?_)
  refine (c102 (z := x + y) (i := 0) (f := 169) rfl rfl ?_ (ha.grow hg03) (hb.grow hg03) (hq.grow hg03) hL2 hL).mono ?_
  · intro w a b n1 d1 n2 d2 h1 h2 e1 e2
    have p1 : 0 < d1 := by obtain ⟨_, _, _, _, _, _, _, h⟩ := h1; exact h
    have p2 : 0 < d2 := by obtain ⟨_, _, _, _, _, _, _, h⟩ := h2; exact h
    refine (c169 h1 h2 hL2 (by omega)).mono ?_
    rintro r w' ⟨hg, hr⟩
    exact ⟨hg, _, _, hr, by rw [e1, e2, Rat.divInt_add_divInt _ _ (by omega) (by omega)]⟩
  · rintro r w4 ⟨hg4, hr⟩
    refine storeQ (hb4.grow hg4) rfl hr fun w5 hm5 hres => ?_
    obtain ⟨o, ho, hv⟩ := resQ hres
    exact ⟨_, _, rfl, ho, Mod.new (hg03.trans hg4) hm5 (by omega), hv⟩
theorem c129 {L : Nat} {p q : Nat → TypeId → Prop} {w : World} {a b : Value} {x y : Rat} (ha : RepQ L p w a x) (hb : RepQ L p w b y) (hq : Nw q w) (hL2 : 2 ≤ L) (hL : L ≤ 268435456) :
    CallP CC 129 [a, b] w fun r w' => Grow w w' ∧ CanQ q w' r (x - y) := by
  obtain ⟨b1, s1, b2, s2, rfl⟩ := repQ_cells ha
  obtain ⟨c1, t1, c2, t2, rfl⟩ := repQ_cells hb
  apply call129
  refine BoxP.mk fun g2 w1 hg1 hlt2 hlt2' hb2 => BoxP.mk fun g3 w2 hg2 hlt3 hlt3' hb3 => AllocP.mk ti30 fun g4 w3 hg3 hlt4 hlt4' hb4 => ?_
  have hg03 := (hg1.trans hg2).trans hg3
  have hs1 := hg1.size
  have hs2 := hg2.size
  refine LoadP.row (cs := [b1, s1, b2, s2]) ti30 ((hb2.grow hg2).grow hg3) rfl (LoadP.row (cs := [c1, t1, c2, t2]) ti30 (hb3.grow hg3) rfl ?_)
  refine (c102 (z := x - y) (i := 1) (f := 171) rfl rfl ?_ (ha.grow hg03) (hb.grow hg03) (hq.grow hg03) hL2 hL).mono ?_
  · intro w a b n1 d1 n2 d2 h1 h2 e1 e2
    have p1 : 0 < d1 := by obtain ⟨_, _, _, _, _, _, _, h⟩ := h1; exact h
    have p2 : 0 < d2 := by obtain ⟨_, _, _, _, _, _, _, h⟩ := h2; exact h
    refine (c171 h1 h2 hL2 (by omega)).mono ?_
    rintro r w' ⟨hg, hr⟩
    exact ⟨hg, _, _, hr, by rw [e1, e2, Rat.divInt_sub_divInt _ _ (by omega) (by omega)]⟩
  · rintro r w4 ⟨hg4, hr⟩
    refine storeQ (hb4.grow hg4) rfl hr fun w5 hm5 hres => ?_
    obtain ⟨o, ho, hv⟩ := resQ hres
    exact ⟨_, _, rfl, ho, Mod.new (hg03.trans hg4) hm5 (by omega), hv⟩
theorem c44 {L : Nat} {p q : Nat → TypeId → Prop} {w : World} {a b : Value} {x y : Rat} (ha : RepQ L p w a x) (hb : RepQ L p w b y) (hq : Nw q w) (hL2 : 2 ≤ L) (hL : L ≤ 268435456) :
    CallP CC 44 [a, b] w fun r w' => Grow w w' ∧ CanQ q w' r (x * y) := by
  obtain ⟨b1, s1, b2, s2, rfl⟩ := repQ_cells ha
  obtain ⟨c1, t1, c2, t2, rfl⟩ := repQ_cells hb
  apply call44
  refine BoxP.mk fun g2 w1 hg1 hlt2 hlt2' hb2 => BoxP.mk fun g3 w2 hg2 hlt3 hlt3' hb3 => AllocP.mk ti30 fun g4 w3 hg3 hlt4 hlt4' hb4 => ?_
  have hg03 := (hg1.trans hg2).trans hg3
  have hs1 := hg1.size
  have hs2 := hg2.size
  refine LoadP.row (cs := [b1, s1, b2, s2]) ti30 ((hb2.grow hg2).grow hg3) rfl (LoadP.row (cs := [c1, t1, c2, t2]) ti30 (hb3.grow hg3) rfl ?_)
  refine (c102 (z := x * y) (i := 2) (f := 172) rfl rfl ?_ (ha.grow hg03) (hb.grow hg03) (hq.grow hg03) hL2 hL).mono ?_
  · intro w a b n1 d1 n2 d2 h1 h2 e1 e2
    have p1 : 0 < d1 := by obtain ⟨_, _, _, _, _, _, _, h⟩ := h1; exact h
    have p2 : 0 < d2 := by obtain ⟨_, _, _, _, _, _, _, h⟩ := h2; exact h
    refine (c172 h1 h2 hL2 (by omega)).mono ?_
    rintro r w' ⟨hg, hr⟩
    exact ⟨hg, _, _, hr.le (by omega), by rw [e1, e2, Rat.divInt_mul_divInt]⟩
  · rintro r w4 ⟨hg4, hr⟩
    refine storeQ (hb4.grow hg4) rfl hr fun w5 hm5 hres => ?_
    obtain ⟨o, ho, hv⟩ := resQ hres
    exact ⟨_, _, rfl, ho, Mod.new (hg03.trans hg4) hm5 (by omega), hv⟩
theorem repQ_zero {L : Nat} {p : Nat → TypeId → Prop} {w : World} : RepQ L p w (.agg #[.bool false, .slice none 0 0, .bool false, .slice none 0 0]) 0 :=
  ⟨_, _, _, _, 0, 0, rfl, ⟨false, _, [], rfl, RepW.nil, Nat.zero_le _, rfl⟩, ⟨false, _, [], rfl, RepW.nil, Nat.zero_le _, rfl⟩, rfl⟩
theorem canQ_zero {p : Nat → TypeId → Prop} {w : World} : CanQ p w (.agg #[.bool false, .slice none 0 0, .bool false, .slice none 0 0]) 0 :=
  ⟨_, _, _, _, rfl, ⟨false, _, [], rfl, RepW.nil, rfl, by simp, rfl⟩, ⟨false, _, [], rfl, RepW.nil, rfl, by simp, rfl⟩⟩
theorem c151 {L : Nat} {p q : Nat → TypeId → Prop} {w : World} {a : Value} {x : Rat} (ha : RepQ L p w a x) (hq : Nw q w) (hL2 : 2 ≤ L) (hL : L ≤ 268435456) :
    CallP CC 151 [a] w fun r w' => Grow w w' ∧ CanQ q w' r (-x) := by
  obtain ⟨b1, s1, b2, s2, rfl⟩ := repQ_cells ha
  apply call151
  refine BoxP.mk fun g1 w1 hg1 hlt1 hlt1' hb1 => AllocP.mk ti30 fun g2 w2 hg2 hlt2 hlt2' hb2 => px rfl ?_
  have hg02 := hg1.trans hg2
  have hs1 := hg1.size
  refine LoadP.row (cs := [b1, s1, b2, s2]) ti30 (hb1.grow hg2) rfl ?_
  refine (c129 (x := 0) repQ_zero (ha.grow hg02) (hq.grow hg02) hL2 hL).mono ?_
  rintro r w3 ⟨hg3, hr⟩
  have hz : (0 : Rat) - x = -x := by rw [Rat.sub_eq_add_neg, Rat.zero_add]
  rw [hz] at hr
  refine storeQ (hb2.grow hg3) rfl hr fun w5 hm5 hres => ?_
  obtain ⟨o, ho, hv⟩ := resQ hres
  exact ⟨_, _, rfl, ho, Mod.new (hg02.trans hg3) hm5 (by omega), hv⟩
theorem c195 {L : Nat} {p q : Nat → TypeId → Prop} {w : World} {a b : Value} {x y : Rat} (ha : RepQ L p w a x) (hb : RepQ L p w b y) (hy : y ≠ 0) (hq : Nw q w) (hL2 : 2 ≤ L) (hL : L ≤ 268435456) :
    CallP CC 195 [a, b] w fun r w' => Grow w w' ∧ ∃ v, r = .tuple #[v, .int .i64 0] ∧ CanQ q w' v (x / y) := by
  obtain ⟨b1, s1, b2, s2, rfl⟩ := repQ_cells ha
  obtain ⟨c1, t1, c2, t2, rfl⟩ := repQ_cells hb
  apply call195
  refine BoxP.mk fun g2 w1 hg1 hlt2 hlt2' hb2 => BoxP.mk fun g3 w2 hg2 hlt3 hlt3' hb3 => AllocP.mk ti30 fun g4 w3 hg3 hlt4 hlt4' hb4 => ?_
  have hg03 := (hg1.trans hg2).trans hg3
  have hs1 := hg1.size
  have hs2 := hg2.size
  refine LoadP.row (cs := [c1, t1, c2, t2]) ti30 (hb3.grow hg3) rfl ((c42 (hb.grow hg03) hL2).mono ?_)
  rintro _ w5 ⟨hg5, rfl⟩
  have hyn : y.num ≠ 0 := fun h => hy (Rat.num_eq_zero.1 h)
  have hg05 := hg03.trans hg5
  refine px rfl (cF ?_ ?_)
  · have : y.num.sign ≠ 0 := fun h => hyn (Int.sign_eq_zero_iff_zero.1 h)
    simpa using this
  refine LoadP.row (cs := [b1, s1, b2, s2]) ti30 (((hb2.grow hg2).grow hg3).grow hg5) rfl (LoadP.row (cs := [c1, t1, c2, t2]) ti30 ((hb3.grow hg3).grow hg5) rfl ?_)
  refine (c102 (z := x / y) (i := 3) (f := 173) rfl rfl ?_ (ha.grow hg05) (hb.grow hg05) (hq.grow hg05) hL2 hL).mono ?_
  · intro w a b n1 d1 n2 d2 h1 h2 e1 e2
    have p1 : 0 < d1 := by obtain ⟨_, _, _, _, _, _, _, h⟩ := h1; exact h
    have p2 : 0 < d2 := by obtain ⟨_, _, _, _, _, _, _, h⟩ := h2; exact h
    have hn2 : n2 ≠ 0 := by
      rintro rfl
      exact hy (by rw [e2]; exact Rat.zero_divInt d2)
    refine (c173 h1 h2 hL2 (by omega) hn2).mono ?_
    rintro r w' ⟨hg, n, d, hr, he⟩
    refine ⟨hg, n, d, hr.le (by omega), ?_⟩
    rw [← he, e1, e2, Rat.div_def, Rat.inv_divInt, Rat.divInt_mul_divInt]
  · rintro r w6 ⟨hg6, hr⟩
    refine storeQ ((hb4.grow hg5).grow hg6) rfl hr fun w7 hm7 hres => ?_
    obtain ⟨o, ho, hv⟩ := resQ hres
    exact ⟨_, _, rfl, ho, Mod.new (hg05.trans hg6) hm7 (by omega), _, rfl, hv⟩
end Go.Proofs.YtaajkcngcalgoaaGreat
namespace Go.Vc
open Go
structure Md (S : Nat → Prop) (a b : World) : Prop where
  upd : Upd S a b
  kw : Kp (fun _ e => e = 199) a b
section
variable {S S' : Nat → Prop} {a b c : World} {e : TypeId} {g sz n base : Nat} {v : Value} {cs xs : List Value}
theorem Md.grow (h : Grow a b) : Md S a b := ⟨h.upd, h.kp⟩
theorem Md.refl (a : World) : Md S a a := Md.grow (Grow.refl a)
theorem Md.trans (h : Md S a b) (h' : Md S b c) : Md S a c := ⟨h.upd.trans h'.upd, h.kw.trans h'.kw⟩
theorem Md.mono (h : Md S a b) (hs : ∀ k, S k → S' k) : Md S' a b := ⟨h.upd.mono hs, h.kw⟩
theorem Md.size (h : Md S a b) : a.heap.size ≤ b.heap.size := h.upd.size
theorem Md.of (h : Upd (· = g) a b) (hb : Blk a g e cs) (he : e ≠ 199) : Md (· = g) a b := by
  refine ⟨h, h.kp fun k c e' fr hp hk hkg => ?_⟩
  subst hkg
  unfold Blk at hb
  rw [hb] at hk
  simp at hk
  exact he (hk.2.1.trans hp)
theorem Md.own (h : Upd (fun g => v.ownBlock = some g) a b) (ho : Own a base e sz v n xs) (he : e ≠ 199) : Md (fun g => v.ownBlock = some g) a b := by
  refine ⟨h, h.kp fun k c e' fr hp hk hkg => ?_⟩
  rcases ho.2 with ⟨rfl, _⟩ | ⟨g, cap, cur, rfl, hb, hgg, _⟩
  · simp [Value.ownBlock] at hkg
  · simp [Value.ownBlock] at hkg
    subst hkg
    rw [hgg] at hk
    simp at hk
    exact he (hk.2.1.trans hp)
theorem Md.new (h : Grow a b) (h' : Md S b c) (hS : ∀ k, S k → a.heap.size ≤ k) : Grow a c := h.upd_new h'.upd hS
theorem Blk.md (h : Blk a g e cs) (hm : Md S a b) (hg : ¬ S g) : Blk b g e cs := h.upd hm.upd hg
theorem Sli.md {p : Nat → TypeId → Prop} (h : Sli p a e sz v n cs) (hm : Md S a b) (hp : ∀ k, p k e → ¬ S k) : Sli p b e sz v n cs := by
  refine ⟨h.1, ?_⟩
  rcases h.2 with h | ⟨g, off, cap, hv, hn, hpg, c, fr, hg, hc⟩
  · exact .inl h
  · exact .inr ⟨g, off, cap, hv, hn, hpg, c, fr, hm.upd.block g _ (hp g hpg) hg, hc⟩
theorem Own.md (h : Own a base e sz v n xs) (hm : Md S a b) (hd : ∀ k, v.ownBlock = some k → ¬ S k) : Own b base e sz v n xs := by
  refine ⟨h.1, ?_⟩
  rcases h.2 with h | ⟨g, cap, cur, hv, hb, hg, hr⟩
  · exact .inl h
  · exact .inr ⟨g, cap, cur, hv, hb, hm.upd.block g _ (hd g (by rw [hv]; rfl)) hg, hr⟩
end
end Go.Vc
namespace Go.Proofs.YtaajkcngcalgoaaGreat
open Go Go.Vc
attribute [local irreducible] Tryz.prog
section
variable {S : Nat → Prop} {a b : World} {v : Value}
theorem RepQ.md {L : Nat} {x : Rat} (h : RepQ L TT a v x) (hm : Md S a b) : RepQ L TT b v x :=
  ((h.mono (q := fun _ e => e = 199) (fun _ _ _ => rfl)).keep hm.kw).tt
theorem CanQ.tt {p : Nat → TypeId → Prop} {x : Rat} (h : CanQ p a v x) : CanQ TT a v x := h.mono fun _ _ _ => trivial
theorem CanQ.md {x : Rat} (h : CanQ TT a v x) (hm : Md S a b) : CanQ TT b v x :=
  ((h.mono (q := fun _ e => e = 199) (fun _ _ _ => rfl)).keep hm.kw).tt
end
theorem natAbs_ediv_le (n : Int) (g : Nat) : (n / (g : Int)).natAbs ≤ n.natAbs := Int.natAbs_ediv_le_natAbs n g
theorem FitQ.of_divInt {L : Nat} {n d : Int} (hd : 0 < d) (hn : n.natAbs < 4294967296 ^ L) (hdl : d.natAbs < 4294967296 ^ L) : FitQ L (Rat.divInt n d) := by
  constructor
  · rw [divInt_num hd]; exact Nat.lt_of_le_of_lt (natAbs_ediv_le _ _) hn
  · have h := divInt_den (n := n) hd
    have h2 := natAbs_ediv_le d (Nat.gcd n.natAbs d.natAbs)
    rw [← h] at h2
    simp at h2
    omega
theorem FitQ.mono {L M : Nat} {x : Rat} (h : FitQ L x) (hl : L ≤ M) : FitQ M x :=
  ⟨Nat.lt_of_lt_of_le h.1 (Nat.pow_le_pow_right (by decide) hl), Nat.lt_of_lt_of_le h.2 (Nat.pow_le_pow_right (by decide) hl)⟩
theorem FitQ.neg {L : Nat} {x : Rat} (h : FitQ L x) : FitQ L (-x) := ⟨by rw [Rat.neg_num, Int.natAbs_neg]; exact h.1, by rw [Rat.neg_den]; exact h.2⟩
theorem pow_add_lt {a b L M : Nat} (ha : a < 4294967296 ^ L) (hb : b < 4294967296 ^ M) : a * b < 4294967296 ^ (L + M) := by
  rw [Nat.pow_add]; exact Nat.mul_lt_mul'' ha hb
theorem FitQ.mul {L M : Nat} {x y : Rat} (h : FitQ L x) (h' : FitQ M y) : FitQ (L + M) (x * y) := by
  rw [← Rat.num_divInt_den x, ← Rat.num_divInt_den y, Rat.divInt_mul_divInt]
  have hx := x.den_pos
  have hy := y.den_pos
  refine FitQ.of_divInt (Int.mul_pos (by omega) (by omega)) ?_ ?_
  · rw [Int.natAbs_mul]; exact pow_add_lt h.1 h'.1
  · rw [Int.natAbs_mul]; exact pow_add_lt h.2 h'.2
theorem FitQ.add {L M : Nat} {x y : Rat} (h : FitQ L x) (h' : FitQ M y) : FitQ (L + M + 1) (x + y) := by
  rw [← Rat.num_divInt_den x, ← Rat.num_divInt_den y]
  have hx := x.den_pos
  have hy := y.den_pos
  rw [Rat.divInt_add_divInt _ _ (by omega) (by omega)]
  have e : (4294967296 : Nat) ^ (L + M + 1) = 4294967296 ^ (L + M) * 4294967296 := rfl
  refine FitQ.of_divInt (Int.mul_pos (by omega) (by omega)) ?_ ?_
  · have h1 := pow_add_lt h.1 h'.2
    have h2 := pow_add_lt h'.1 h.2
    rw [Nat.add_comm M L] at h2
    refine Nat.lt_of_le_of_lt (Int.natAbs_add_le _ _) ?_
    simp only [Int.natAbs_mul, Int.natAbs_natCast]
    omega
  · rw [Int.natAbs_mul]
    have := pow_add_lt h.2 h'.2
    simp only [Int.natAbs_natCast]
    omega
theorem FitQ.sub {L M : Nat} {x y : Rat} (h : FitQ L x) (h' : FitQ M y) : FitQ (L + M + 1) (x - y) := by
  rw [Rat.sub_eq_add_neg]; exact h.add h'.neg
theorem FitQ.zero {L : Nat} (h : 1 ≤ L) : FitQ L 0 := by
  have : 4294967296 ^ 1 ≤ 4294967296 ^ L := Nat.pow_le_pow_right (by decide) h
  constructor
  · simp; omega
  · simp; omega
theorem FitQ.div {L M : Nat} {x y : Rat} (h : FitQ L x) (h' : FitQ M y) (hy : y ≠ 0) : FitQ (L + M) (x / y) := by
  rw [← Rat.num_divInt_den x, ← Rat.num_divInt_den y, Rat.div_def, Rat.inv_divInt, Rat.divInt_mul_divInt]
  have hx := x.den_pos
  have hyd := y.den_pos
  have hyn : y.num ≠ 0 := fun h => hy (Rat.num_eq_zero.1 h)
  have h1 := pow_add_lt h.1 h'.2
  have h2 := pow_add_lt h.2 h'.1
  rcases Int.lt_or_gt_of_ne hyn with hn | hp
  · have e : Rat.divInt (x.num * y.den) (x.den * y.num) = Rat.divInt (-(x.num * y.den)) (-(x.den * y.num)) := by rw [Rat.neg_divInt_neg]
    rw [e]
    refine FitQ.of_divInt ?_ ?_ ?_
    · rw [← Int.mul_neg]; exact Int.mul_pos (by omega) (by omega)
    · rw [Int.natAbs_neg, Int.natAbs_mul]; exact h1
    · rw [Int.natAbs_neg, Int.natAbs_mul]; exact h2
  · refine FitQ.of_divInt (Int.mul_pos (by omega) (by omega)) ?_ ?_
    · rw [Int.natAbs_mul]; exact h1
    · rw [Int.natAbs_mul]; exact h2
theorem RepQ.fit {L : Nat} {p : Nat → TypeId → Prop} {w : World} {v : Value} {x : Rat} (h : RepQ L p w v x) (hL : 1 ≤ L) : FitQ L x := by
  obtain ⟨b1, s1, b2, s2, num, den, rfl, h1, h2, rfl⟩ := h
  have z1 := h1.size
  have z2 := h2.size
  have h0 : 4294967296 ^ 1 ≤ 4294967296 ^ L := Nat.pow_le_pow_right (by decide) hL
  by_cases hd : den = 0
  · rw [if_pos hd]
    exact FitQ.of_divInt (by decide) z1 (by simp; omega)
  · rw [if_neg hd]
    rcases Int.lt_or_gt_of_ne hd with hn | hp
    · rw [← Rat.neg_divInt_neg]
      exact FitQ.of_divInt (by omega) (by rwa [Int.natAbs_neg]) (by rwa [Int.natAbs_neg])
    · exact FitQ.of_divInt hp z1 z2
def QR (c : Bool) (L : Nat) (w : World) (v : Value) (x : Rat) : Prop := RepQ L TT w v x ∧ (c = true → CanQ TT w v x)
section
variable {c : Bool} {L M : Nat} {w w' : World} {v : Value} {x y : Rat} {S : Nat → Prop}
theorem QR.can (h : QR true L w v x) : CanQ TT w v x := h.2 rfl
theorem QR.of (h : CanQ TT w v x) (hf : FitQ L x) : QR c L w v x := ⟨h.rep hf, fun _ => h⟩
theorem QR.fit (h : QR c L w v x) (hL : 1 ≤ L) : FitQ L x := h.1.fit hL
theorem QR.refit (h : QR true L w v x) (hf : FitQ M x) : QR c M w v x := QR.of h.can hf
theorem RepQ.le {p : Nat → TypeId → Prop} (h : RepQ L p w v x) (hl : L ≤ M) : RepQ M p w v x := by
  obtain ⟨b1, s1, b2, s2, num, den, rfl, h1, h2, hx⟩ := h
  exact ⟨b1, s1, b2, s2, num, den, rfl, h1.le hl, h2.le hl, hx⟩
theorem QR.le (h : QR c L w v x) (hl : L ≤ M) : QR c M w v x := ⟨h.1.le hl, h.2⟩
theorem QR.md (h : QR c L w v x) (hm : Md S w w') : QR c L w' v x := ⟨h.1.md hm, fun hc => (h.2 hc).md hm⟩
theorem QR.grow (h : QR c L w v x) (hg : Grow w w') : QR c L w' v x := h.md (Md.grow (S := fun _ => False) hg)
theorem QR.cells (h : QR c L w v x) : ∃ cs : List Value, v = .agg cs.toArray ∧ cs.length = 4 ∧ ∀ u ∈ cs, u.oneCell' = true := by
  obtain ⟨b1, s1, b2, s2, num, den, rfl, h1, h2, _⟩ := h.1
  have o1 := agg_one h1
  have o2 := agg_one h2
  exact ⟨[b1, s1, b2, s2], rfl, rfl, by simp [o1, o2]⟩
theorem QR.zero (hL : 1 ≤ L) : QR c L w (.agg #[.bool false, .slice none 0 0, .bool false, .slice none 0 0]) 0 := QR.of canQ_zero (FitQ.zero hL)
variable {c' : Bool} {a b : Value}
theorem nwTT (w : World) : Nw TT w := fun _ _ => trivial
theorem q41 (ha : QR c L w a x) (hb : QR c' M w b y) (h1 : 2 ≤ L) (h2 : L ≤ 268435456) (h3 : 2 ≤ M) (h4 : M ≤ 268435456) :
    CallP CC 41 [a, b] w fun r w' => Grow w w' ∧ QR true (L + M + 1) w' r (x + y) := by
  refine (c41 (L := max L M) (ha.1.le (Nat.le_max_left _ _)) (hb.1.le (Nat.le_max_right _ _)) (nwTT w) (by omega) (by omega)).mono ?_
  rintro r w' ⟨hg, hr⟩
  exact ⟨hg, QR.of hr ((ha.fit (by omega)).add (hb.fit (by omega)))⟩
theorem q129 (ha : QR c L w a x) (hb : QR c' M w b y) (h1 : 2 ≤ L) (h2 : L ≤ 268435456) (h3 : 2 ≤ M) (h4 : M ≤ 268435456) :
    CallP CC 129 [a, b] w fun r w' => Grow w w' ∧ QR true (L + M + 1) w' r (x - y) := by
  refine (c129 (L := max L M) (ha.1.le (Nat.le_max_left _ _)) (hb.1.le (Nat.le_max_right _ _)) (nwTT w) (by omega) (by omega)).mono ?_
  rintro r w' ⟨hg, hr⟩
  exact ⟨hg, QR.of hr ((ha.fit (by omega)).sub (hb.fit (by omega)))⟩
theorem q44 (ha : QR c L w a x) (hb : QR c' M w b y) (h1 : 2 ≤ L) (h2 : L ≤ 268435456) (h3 : 2 ≤ M) (h4 : M ≤ 268435456) :
    CallP CC 44 [a, b] w fun r w' => Grow w w' ∧ QR true (L + M) w' r (x * y) := by
  refine (c44 (L := max L M) (ha.1.le (Nat.le_max_left _ _)) (hb.1.le (Nat.le_max_right _ _)) (nwTT w) (by omega) (by omega)).mono ?_
  rintro r w' ⟨hg, hr⟩
  exact ⟨hg, QR.of hr ((ha.fit (by omega)).mul (hb.fit (by omega)))⟩
theorem q195 (ha : QR c L w a x) (hb : QR c' M w b y) (hy : y ≠ 0) (h1 : 2 ≤ L) (h2 : L ≤ 268435456) (h3 : 2 ≤ M) (h4 : M ≤ 268435456) :
    CallP CC 195 [a, b] w fun r w' => Grow w w' ∧ ∃ v, r = .tuple #[v, .int .i64 0] ∧ QR true (L + M) w' v (x / y) := by
  refine (c195 (L := max L M) (ha.1.le (Nat.le_max_left _ _)) (hb.1.le (Nat.le_max_right _ _)) hy (nwTT w) (by omega) (by omega)).mono ?_
  rintro r w' ⟨hg, v, hv, hr⟩
  exact ⟨hg, v, hv, QR.of hr ((ha.fit (by omega)).div (hb.fit (by omega)) hy)⟩
theorem q151 (ha : QR c L w a x) (h1 : 2 ≤ L) (h2 : L ≤ 268435456) :
    CallP CC 151 [a] w fun r w' => Grow w w' ∧ QR true L w' r (-x) := by
  refine (c151 ha.1 (nwTT w) (by omega) (by omega)).mono ?_
  rintro r w' ⟨hg, hr⟩
  exact ⟨hg, QR.of hr (ha.fit (by omega)).neg⟩
theorem q87 (ha : QR c L w a x) (h1 : 2 ≤ L) (h2 : L ≤ 268435456) :
    CallP CC 87 [a] w fun r w' => Grow w w' ∧ QR true L w' r x := by
  refine (c87 ha.1 (nwTT w) (by omega) (by omega)).mono ?_
  rintro r w' ⟨hg, hr⟩
  exact ⟨hg, QR.of hr (ha.fit (by omega))⟩
theorem q42 (ha : QR c L w a x) (h1 : 2 ≤ L) :
    CallP CC 42 [a] w fun r w' => Grow w w' ∧ r = .int .i64 x.num.sign := c42 ha.1 h1
theorem FitQ.int {n : Int} (hn : -9223372036854775808 ≤ n ∧ n < 9223372036854775808) : FitQ 2 (n : Rat) := by
  constructor
  · simp; omega
  · simp
theorem q36 {n : Int} (hn : -9223372036854775808 ≤ n ∧ n < 9223372036854775808) :
    CallP CC 36 [.int .i64 n] w fun r w' => Grow w w' ∧ QR true 2 w' r (n : Rat) := by
  refine (c36 hn (nwTT w)).mono ?_
  rintro r w' ⟨hg, hr⟩
  exact ⟨hg, QR.of hr (FitQ.int hn)⟩
end
end Go.Proofs.YtaajkcngcalgoaaGreat
