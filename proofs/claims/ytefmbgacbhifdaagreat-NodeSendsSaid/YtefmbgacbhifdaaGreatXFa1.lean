/-
  A part of the proof.
-/
import Derived.Test.YtefmbgacbhifdaaGreatXUn
namespace Go.Proofs.YtefmbgacbhifdaaGreat
open Go Go.Proofs.YtefmbgacbhifdaaGreat.Le
set_option maxRecDepth 100000
inductive Z86 where
  | b0 (a0 : Int)
noncomputable def Z7G : Z86 → Tr U (Bool ⊕ Z86)
  | .b0 a0 => .br (decide (a0 > (0 : Int))) ( .leaf (.inl (decide (a0 ≤ (32767 : Int))))) ( .leaf (.inl false))
noncomputable def Z1g (a0 : Int) : Option Bool := flow Z7G (.b0 a0)
noncomputable def Zm5 : Mod U := ⟨[22], 4, fun x => Z1g x.1, by decide⟩
noncomputable def ZiZ : Z86 → Spot U
  | .b0 a0 => entP Tryz.f23 [22] (a0, ())
theorem Zi5 : BlkP 23 Tryz.f23 msN hsN AN 4 Z7G ZiZ
  | .b0 _ => by kernel_rfl
theorem Z4e : FnOK Tryz.prog B0 23 Zm5 := okP Zi5 (fun x => .b0 x.1) (by kernel_rfl) Tryz.func23 (by kernel_rfl) (by kernel_rfl) (fun _ => rfl) (fun _ => rfl)
inductive Z9W where
  | b0 (a0 a1 : Int)
noncomputable def Z6c : Z9W → Tr U (Int ⊕ Z9W)
  | .b0 a0 a1 => .br (decide (a1 ≤ (0 : Int))) ( .leaf (.inl (0 : Int))) ( .br (decide (a1 ≥ (64 : Int))) ( .leaf (.inl a0)) ( .chk (decide (0 ≤ a1)) ( .leaf (.inl (bits .and .u64 a0 (IntKind.wrap .u64 ((IntKind.wrap .u64 ((1 : Int) * 2 ^ (min (Int.toNat a1) (IntKind.bits .u64)))) - (1 : Int))))))))
noncomputable def Z1H (a0 a1 : Int) : Option Int := flow Z6c (.b0 a0 a1)
noncomputable def ZoF : Mod U := ⟨[23, 3], 23, fun x => Z1H x.1 x.2.1, by decide⟩
noncomputable def Zle : Z9W → Spot U
  | .b0 a0 a1 => entP Tryz.f294 [23, 3] (a0, a1, ())
theorem Zjr : BlkP 294 Tryz.f294 msN hsN AN 23 Z6c Zle
  | .b0 _ _ => by kernel_rfl
theorem ZcK : FnOK Tryz.prog B0 294 ZoF := okP Zjr (fun x => .b0 x.1 x.2.1) (by kernel_rfl) Tryz.func294 (by kernel_rfl) (by kernel_rfl) (fun _ => rfl) (fun _ => rfl)
inductive Z89 where
  | b0 (a0 : Int)
noncomputable def Z54 : Z89 → Tr U (ZR ⊕ Z89)
  | .b0 a0 => .bind 23 (Z1H a0 (32 : Int)) (fun (x1 : Int) => .leaf (.inl (⟨(IntKind.wrap .u32 ((Int.fdiv a0 (2 ^ (32 : Nat))))), (IntKind.wrap .u32 (x1))⟩ : ZR)))
noncomputable def Z5a (a0 : Int) : Option ZR := flow Z54 (.b0 a0)
noncomputable def Zm3 : Mod U := ⟨[23], 325, fun x => Z5a x.1, by decide⟩
noncomputable def ZiM : Z89 → Spot U
  | .b0 a0 => entP Tryz.f275 [23] (a0, ())
theorem ZgO : BlkP 275 Tryz.f275 (mc ZcK msN) hsN AN 325 Z54 ZiM
  | .b0 _ => by kernel_rfl
theorem ZiG : FnOK Tryz.prog B0 275 Zm3 := okP ZgO (fun x => .b0 x.1) (by kernel_rfl) Tryz.func275 (by kernel_rfl) (by kernel_rfl) (fun _ => rfl) (fun _ => rfl)
inductive Z1z where
  | b0 (a0 a1 : Int)
noncomputable def Z1A : Z1z → Tr U (Int ⊕ Z1z)
  | .b0 a0 a1 => .chk (decide (0 ≤ (bits .and .u64 (IntKind.wrap .u64 (a1)) (63 : Int)))) ( .chk (decide (0 ≤ (IntKind.wrap .u64 ((64 : Int) - (bits .and .u64 (IntKind.wrap .u64 (a1)) (63 : Int)))))) ( .leaf (.inl (bits .or .u64 (IntKind.wrap .u64 (a0 * 2 ^ (min (Int.toNat (bits .and .u64 (IntKind.wrap .u64 (a1)) (63 : Int))) (IntKind.bits .u64)))) (Int.fdiv a0 (2 ^ (min (Int.toNat (IntKind.wrap .u64 ((64 : Int) - (bits .and .u64 (IntKind.wrap .u64 (a1)) (63 : Int))))) (IntKind.bits .u64))))))))
noncomputable def ZY (a0 a1 : Int) : Option Int := flow Z1A (.b0 a0 a1)
noncomputable def Z7i : Mod U := ⟨[23, 3], 23, fun x => ZY x.1 x.2.1, by decide⟩
noncomputable def Z6Y : Z1z → Spot U
  | .b0 a0 a1 => entP Tryz.f295 [23, 3] (a0, a1, ())
theorem Z67 : BlkP 295 Tryz.f295 msN hsN AN 23 Z1A Z6Y
  | .b0 _ _ => by kernel_rfl
theorem Z6P : FnOK Tryz.prog B0 295 Z7i := okP Z67 (fun x => .b0 x.1 x.2.1) (by kernel_rfl) Tryz.func295 (by kernel_rfl) (by kernel_rfl) (fun _ => rfl) (fun _ => rfl)
inductive Z1D where
  | b0 (a0 a1 : Int)
noncomputable def Z1u : Z1D → Tr U (Int ⊕ Z1D)
  | .b0 a0 a1 => .chk (decide (0 ≤ (bits .and .u64 (IntKind.wrap .u64 (a1)) (31 : Int)))) ( .chk (decide (0 ≤ (IntKind.wrap .u64 ((32 : Int) - (bits .and .u64 (IntKind.wrap .u64 (a1)) (31 : Int)))))) ( .leaf (.inl (bits .or .u32 (IntKind.wrap .u32 (a0 * 2 ^ (min (Int.toNat (bits .and .u64 (IntKind.wrap .u64 (a1)) (31 : Int))) (IntKind.bits .u32)))) (Int.fdiv a0 (2 ^ (min (Int.toNat (IntKind.wrap .u64 ((32 : Int) - (bits .and .u64 (IntKind.wrap .u64 (a1)) (31 : Int))))) (IntKind.bits .u32))))))))
noncomputable def ZA (a0 a1 : Int) : Option Int := flow Z1u (.b0 a0 a1)
noncomputable def Z7a : Mod U := ⟨[33, 3], 33, fun x => ZA x.1 x.2.1, by decide⟩
noncomputable def Z6U : Z1D → Spot U
  | .b0 a0 a1 => entP Tryz.f296 [33, 3] (a0, a1, ())
theorem Z68 : BlkP 296 Tryz.f296 msN hsN AN 33 Z1u Z6U
  | .b0 _ _ => by kernel_rfl
theorem Z6G : FnOK Tryz.prog B0 296 Z7a := okP Z68 (fun x => .b0 x.1 x.2.1) (by kernel_rfl) Tryz.func296 (by kernel_rfl) (by kernel_rfl) (fun _ => rfl) (fun _ => rfl)
inductive Z7Y where
  | b0 (a0 a1 a2 : Int)
noncomputable def Z55 : Z7Y → Tr U (Int ⊕ Z7Y)
  | .b0 a0 a1 a2 => .bind 23 (ZY a0 (Int.tmod (w64 ((11 : Int) * (Int.tmod a1 (64 : Int)))) (64 : Int))) (fun (x1 : Int) => .bind 23 (Z1H x1 (32 : Int)) (fun (x2 : Int) => .bind 33 (ZA (IntKind.wrap .u32 (a2 + (IntKind.wrap .u32 (x2)))) (7 : Int)) (fun (x3 : Int) => .bind 33 (ZA (IntKind.wrap .u32 (x2)) (16 : Int)) (fun (x4 : Int) => .leaf (.inl (bits .xor .u32 (IntKind.wrap .u32 (x3 * (2654435761 : Int))) x4))))))
noncomputable def Z3t (a0 a1 a2 : Int) : Option Int := flow Z55 (.b0 a0 a1 a2)
noncomputable def Zlf : Mod U := ⟨[24, 3, 33], 33, fun x => Z3t x.1 x.2.1 x.2.2.1, by decide⟩
noncomputable def Zju : Z7Y → Spot U
  | .b0 a0 a1 a2 => entP Tryz.f276 [24, 3, 33] (a0, a1, a2, ())
theorem Zhu : BlkP 276 Tryz.f276 (mc ZcK (mc Z6P (mc Z6G msN))) hsN AN 33 Z55 Zju
  | .b0 _ _ _ => by kernel_rfl
theorem Zj7 : FnOK Tryz.prog B0 276 Zlf := okP Zhu (fun x => .b0 x.1 x.2.1 x.2.2.1) (by kernel_rfl) Tryz.func276 (by kernel_rfl) (by kernel_rfl) (fun _ => rfl) (fun _ => rfl)
inductive Z2M where
  | b0 (a0 : ZR)
noncomputable def Z0U : Z2M → Tr U (Int ⊕ Z2M)
  | .b0 a0 => .leaf (.inl (bits .or .u64 (IntKind.wrap .u64 ((IntKind.wrap .u64 (a0.x0)) * 2 ^ (32 : Nat))) (IntKind.wrap .u64 (a0.x1))))
noncomputable def Z0O (a0 : ZR) : Option Int := flow Z0U (.b0 a0)
noncomputable def Zc6 : Mod U := ⟨[325], 23, fun x => Z0O x.1, by decide⟩
noncomputable def Zax : Z2M → Spot U
  | .b0 a0 => entP Tryz.f277 [325] (a0, ())
theorem Z9v : BlkP 277 Tryz.f277 msN hsN AN 23 Z0U Zax
  | .b0 _ => by kernel_rfl
theorem Zal : FnOK Tryz.prog B0 277 Zc6 := okP Z9v (fun x => .b0 x.1) (by kernel_rfl) Tryz.func277 (by kernel_rfl) (by kernel_rfl) (fun _ => rfl) (fun _ => rfl)
inductive Zb2 where
  | b0 (a0 a1 : Int)
  | b1 (a0 a1 : Int) (a2 : ZR)
noncomputable def ZN : Zb2 → Tr U (Int ⊕ Zb2)
  | .b0 a0 a1 => .bind 325 (Z5a a1) (fun (x1 : ZR) => .leaf (.inr (.b1 a0 (0 : Int) x1)))
  | .b1 a0 a1 a2 => .br (decide (a1 < (8 : Int))) ( .bind 33 (Z3t a0 a1 a2.x1) (fun (x1 : Int) => .leaf (.inr (.b1 a0 (w64 (a1 + (1 : Int))) (⟨a2.x1, (bits .xor .u32 a2.x0 x1)⟩ : ZR))))) ( .bind 23 (Z0O a2) (fun (x2 : Int) => .leaf (.inl x2)))
noncomputable def Z0u (a0 a1 : Int) : Option Int := flow ZN (.b0 a0 a1)
noncomputable def Zbv : Mod U := ⟨[24, 23], 23, fun x => Z0u x.1 x.2.1, by decide⟩
def ZcE : Lay := ⟨[0, 5, 9], [[.keep], [.keep], [.keep]], [.var [.keep, .keep]], ⟨[.one (.v 24 1 false), .one (.ptr 0), .one (.v 3 1 false)], [.var 325 2 (.agg [.v 325 2 true])]⟩⟩
def Zpm : Nat → Option Lay
  | 3 => some ZcE
  | _ => none
noncomputable def ZnR : Zb2 → Spot U
  | .b0 a0 a1 => entP Tryz.f221 [24, 23] (a0, a1, ())
  | .b1 a0 a1 a2 => spL Tryz.f221 [1, 1, 0, 1, 0, 0, 0] ZcE (((a0, ()), ((), ((a1, ()), ()))), ((a2, ()), ()))
theorem Zla : BlkP 221 Tryz.f221 (mc ZiG (mc Zj7 (mc Zal msN))) hsN Zpm 23 ZN ZnR
  | .b0 _ _ => by kernel_rfl
  | .b1 _ _ _ => by kernel_rfl
theorem Zfy : FnOK Tryz.prog B0 221 Zbv := okP Zla (fun x => .b0 x.1 x.2.1) (by kernel_rfl) Tryz.func221 (by kernel_rfl) (by kernel_rfl) (fun _ => rfl) (fun _ => rfl)
end Go.Proofs.YtefmbgacbhifdaaGreat
