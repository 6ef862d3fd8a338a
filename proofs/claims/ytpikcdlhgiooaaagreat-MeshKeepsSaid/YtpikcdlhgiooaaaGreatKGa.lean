/-
  A node that is alone: its values, and what is given.
-/
import Derived.Test.YtpikcdlhgiooaaaGreatF1
namespace Go.Proofs.YtpikcdlhgiooaaaGreat
open Go Go.Proofs.YtpikcdlhgiooaaaGreat.Le
set_option linter.unusedVariables false
set_option maxRecDepth 100000
noncomputable section
def KL : api_NetKey := ⟨3, 60, 15117967196265648854, 3048390888902185609, 2089129140018500110⟩
/-- A node that is alone. -/
def nodeL (r : Bool) : api_Node := ⟨50, 1, 2, (⟨0, KL, z_api_NetKey⟩ : api_KeyState), z_api_IVState, 0, r, false, [], [], [], (⟨[], []⟩ : api_Transport), z_api_Friend, z_api_LowPower, [], 0, true⟩
/-- The beacons up to a time. -/
def cntL (i : Nat) : Nat := (i + 50) / 100
/-- Its mesh at a time. -/
def stM (r : Bool) (i : Nat) : api_Mesh := ⟨[nodeL r], [], [], (cntL i : Int), (i : Int), [], []⟩
def plL (r : Bool) : wirelesslaw54_Plan := ⟨[r], [], [], []⟩
def bbL : List Int := [0, 0, 0, 0, 0, 37, 131, 250, 238, 199, 67, 63, 54]
def sentL (i : Nat) : List api_Timed := bif i % 100 == 50 then [⟨(i : Int), bbL, 0⟩] else []
def C0 : List V := (U.enc 59 (nodeL false)).cells
def wB (b : Bool) : V := .lit (.bool b)
def nV (b : Bool) : V := .agg (C0.set 18 (wB b))
theorem nV_eq (b : Bool) : U.enc 59 (nodeL b) = nV b := by cases b <;> kernel_rfl
def iV (i : Nat) : V := .lit (.int .i64 (i : Int))
def relOf (cs : List V) : Option Bool := match cs.getD 18 .und with
  | .lit (.bool b) => if veqs (cs.set 18 (wB false)) C0 then some b else none
  | _ => none
theorem relOf_eq {cs : List V} {b : Bool} (h : relOf cs = some b) : cs = C0.set 18 (wB b) := by
  unfold relOf at h
  split at h
  · rename_i b' hb
    split at h
    · rename_i hv
      cases h
      have hc := veqs_eq _ _ hv
      rw [← hc, List.set_set]
      have hl : 18 < cs.length := by
        refine Nat.lt_of_not_le fun hn => ?_
        rw [List.getD_eq_getElem?_getD, List.getElem?_eq_none hn] at hb
        cases hb
      have hg : cs[18] = wB b := by
        rw [List.getD_eq_getElem?_getD, List.getElem?_eq_getElem hl] at hb
        exact hb
      rw [← hg, List.set_getElem_self]
    · cases h
  · cases h
abbrev E0 : Env := EX Tryz.prog gl fs10 pu10 [(58, 4)] [] ex_law54_lives hl10
theorem own47 (b : Bool) : runF E0 300 47 [nV b] = some (nV b) := by kernel_rfl
theorem own37 (b : Bool) : runF E0 300 37 [nV b] = some (nV b) := by kernel_rfl
def ownK : List V → Option V
  | [.agg cs] => (relOf cs).map fun _ => .agg cs
  | _ => none
theorem gvOwn {f : FuncId} {F : List V → Option V} (h : GivenOK Tryz.prog gl f F) (ho : ∀ b, F [nV b] = some (nV b)) : GivenOK Tryz.prog gl f ownK := ⟨h.entered, fun E ys r hg hr => by
  unfold ownK at hr
  split at hr
  · rename_i cs
    obtain ⟨b, hb, rfl⟩ := Option.map_eq_some_iff.1 hr
    rw [relOf_eq hb]
    exact h.pure E _ _ hg (ho b)
  · cases hr⟩
theorem gv0 {f : FuncId} (hf : fs10.contains f = true) {fn : Func} (hfn : Tryz.prog.funcs[f]? = some fn) (hb : fn.body.isNone = false) : GivenOK Tryz.prog gl f (runF E0 300 f) := given_runX mix_ok ckT0 exok_law54_lives hlok10 nilok10 hf hfn hb 300
theorem gv47 : GivenOK Tryz.prog gl 47 ownK := gvOwn (gv0 (by rfl) Tryz.func47 (by kernel_rfl)) own47
theorem gv37 : GivenOK Tryz.prog gl 37 ownK := gvOwn (gv0 (by rfl) Tryz.func37 (by kernel_rfl)) own37
/-- What does not lean on the time. -/
def nowK (c r : V) : List V → Option V
  | [v, .lit (.int .i64 _)] => if veq v c then some r else none
  | _ => none
theorem gvNow {f : FuncId} {F : List V → Option V} {c r : V} (h : GivenOK Tryz.prog gl f F) (ho : ∀ i, F [c, .lit (.int .i64 i)] = some r) : GivenOK Tryz.prog gl f (nowK c r) := ⟨h.entered, fun E ys r' hg hr => by
  unfold nowK at hr
  split at hr
  · rename_i v i
    split at hr
    · rename_i hv
      cases hr
      rw [veq_eq _ _ hv]
      exact h.pure E _ _ hg (ho i)
    · cases hr
  · cases hr⟩
def lowV : V := U.enc 56 z_api_LowPower
def traV : V := U.enc 51 ⟨[], []⟩
theorem lt79 (i : Int) : runF E0 300 79 [lowV, .lit (.int .i64 i)] = some (.tup [lowV, .sl false 10 []]) := by kernel_rfl
theorem ag82 (i : Int) : runF E0 300 82 [traV, .lit (.int .i64 i)] = some (.tup [traV, .sl false 13 [], .sl false 1 []]) := by kernel_rfl
theorem ac83 (i : Int) : runF E0 300 83 [traV, .lit (.int .i64 i)] = some (.tup [traV, .sl false 13 []]) := by kernel_rfl
theorem gv79 : GivenOK Tryz.prog gl 79 (nowK lowV (.tup [lowV, .sl false 10 []])) := gvNow (gv0 (by rfl) Tryz.func79 (by kernel_rfl)) lt79
theorem gv82 : GivenOK Tryz.prog gl 82 (nowK traV (.tup [traV, .sl false 13 [], .sl false 1 []])) := gvNow (gv0 (by rfl) Tryz.func82 (by kernel_rfl)) ag82
theorem gv83 : GivenOK Tryz.prog gl 83 (nowK traV (.tup [traV, .sl false 13 []])) := gvNow (gv0 (by rfl) Tryz.func83 (by kernel_rfl)) ac83
def exK1 : FuncId → Option (List V → Option V)
  | 47 => some ownK
  | 79 => some (nowK lowV (.tup [lowV, .sl false 10 []]))
  | 82 => some (nowK traV (.tup [traV, .sl false 13 [], .sl false 1 []]))
  | 83 => some (nowK traV (.tup [traV, .sl false 13 []]))
  | g => ex_law54_lives g
theorem exokK1 : ∀ g F, exK1 g = some F → GivenOK Tryz.prog gl g F := fun g F h => by
  unfold exK1 at h
  split at h
  · cases h; exact gv47
  · cases h; exact gv79
  · cases h; exact gv82
  · cases h; exact gv83
  · exact exok_law54_lives _ _ h
abbrev E1 : Env := EX Tryz.prog gl fs10 pu10 [(58, 4)] [] exK1 hl10
theorem ckK1 : exCheck Tryz.prog gl fs10 pu10 [(58, 4)] [] exK1 hl10 = true := by kernel_rfl
def ntF (b : Bool) (i : Nat) : Option V := (runF E1 300 8 [nV b, iV i]).map (retypeR [[], [3], [11]])
def ntR (b : Bool) (i : Nat) : V := .tup [nV b, U.enc 57 (sentL i), .sl false 11 []]
def exK0 : FuncId → Option (List V → Option V)
  | 79 => some (nowK lowV (.tup [lowV, .sl false 10 []]))
  | 82 => some (nowK traV (.tup [traV, .sl false 13 [], .sl false 1 []]))
  | 83 => some (nowK traV (.tup [traV, .sl false 13 []]))
  | g => ex_law54_lives g
theorem exokK0 : ∀ g F, exK0 g = some F → GivenOK Tryz.prog gl g F := fun g F h => by
  unfold exK0 at h
  split at h
  · cases h; exact gv79
  · cases h; exact gv82
  · cases h; exact gv83
  · exact exok_law54_lives _ _ h
theorem ckK0 : exCheck Tryz.prog gl fs10 pu10 [(58, 4)] [] exK0 hl10 = true := by kernel_rfl
def nbF (b : Bool) (i : Nat) : Option V := (runF (EX Tryz.prog gl fs10 pu10 [(58, 4)] [] exK0 hl10) 300 8 [nV b, iV i]).map (retypeR [[], [3], [11]])
theorem batch {f : Nat → Option V} {g : Nat → V} {m : Nat} (h : (List.range 8).map (fun j => f (m + j)) = (List.range 8).map fun j => some (g (m + j))) (i : Nat) (h1 : m ≤ i) (h2 : i < m + 8) : f i = some (g i) := by
  have := List.map_inj_left.1 h (i - m) (List.mem_range.2 (by omega))
  rwa [show m + (i - m) = i by omega] at this
end
end Go.Proofs.YtpikcdlhgiooaaaGreat
