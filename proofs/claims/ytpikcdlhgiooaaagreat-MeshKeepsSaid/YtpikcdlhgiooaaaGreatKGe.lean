/-
  A node that is alone: its functions as functions of Lean.
-/
import Derived.Test.YtpikcdlhgiooaaaGreatKGd0
import Derived.Test.YtpikcdlhgiooaaaGreatKGd1
import Derived.Test.YtpikcdlhgiooaaaGreatKGd2
import Derived.Test.YtpikcdlhgiooaaaGreatKGd3
import Derived.Test.YtpikcdlhgiooaaaGreatKGd4
import Derived.Test.YtpikcdlhgiooaaaGreatKGd5
namespace Go.Proofs.YtpikcdlhgiooaaaGreat
open Go Go.Proofs.YtpikcdlhgiooaaaGreat.Le
set_option linter.unusedVariables false
set_option maxRecDepth 100000
noncomputable section
theorem mt_all (b : Bool) (i : Nat) (h2 : i < 256) : mtF b i = some (mV b (i + 1)) := by
  by_cases h : i < 8
  · exact batch (f := mtF b) (g := fun i => mV b (i + 1)) (mt_0 b) i (by omega) (by omega)
  by_cases h : i < 16
  · exact batch (f := mtF b) (g := fun i => mV b (i + 1)) (mt_1 b) i (by omega) (by omega)
  by_cases h : i < 24
  · exact batch (f := mtF b) (g := fun i => mV b (i + 1)) (mt_2 b) i (by omega) (by omega)
  by_cases h : i < 32
  · exact batch (f := mtF b) (g := fun i => mV b (i + 1)) (mt_3 b) i (by omega) (by omega)
  by_cases h : i < 40
  · exact batch (f := mtF b) (g := fun i => mV b (i + 1)) (mt_4 b) i (by omega) (by omega)
  by_cases h : i < 48
  · exact batch (f := mtF b) (g := fun i => mV b (i + 1)) (mt_5 b) i (by omega) (by omega)
  by_cases h : i < 56
  · exact batch (f := mtF b) (g := fun i => mV b (i + 1)) (mt_6 b) i (by omega) (by omega)
  by_cases h : i < 64
  · exact batch (f := mtF b) (g := fun i => mV b (i + 1)) (mt_7 b) i (by omega) (by omega)
  by_cases h : i < 72
  · exact batch (f := mtF b) (g := fun i => mV b (i + 1)) (mt_8 b) i (by omega) (by omega)
  by_cases h : i < 80
  · exact batch (f := mtF b) (g := fun i => mV b (i + 1)) (mt_9 b) i (by omega) (by omega)
  by_cases h : i < 88
  · exact batch (f := mtF b) (g := fun i => mV b (i + 1)) (mt_10 b) i (by omega) (by omega)
  by_cases h : i < 96
  · exact batch (f := mtF b) (g := fun i => mV b (i + 1)) (mt_11 b) i (by omega) (by omega)
  by_cases h : i < 104
  · exact batch (f := mtF b) (g := fun i => mV b (i + 1)) (mt_12 b) i (by omega) (by omega)
  by_cases h : i < 112
  · exact batch (f := mtF b) (g := fun i => mV b (i + 1)) (mt_13 b) i (by omega) (by omega)
  by_cases h : i < 120
  · exact batch (f := mtF b) (g := fun i => mV b (i + 1)) (mt_14 b) i (by omega) (by omega)
  by_cases h : i < 128
  · exact batch (f := mtF b) (g := fun i => mV b (i + 1)) (mt_15 b) i (by omega) (by omega)
  by_cases h : i < 136
  · exact batch (f := mtF b) (g := fun i => mV b (i + 1)) (mt_16 b) i (by omega) (by omega)
  by_cases h : i < 144
  · exact batch (f := mtF b) (g := fun i => mV b (i + 1)) (mt_17 b) i (by omega) (by omega)
  by_cases h : i < 152
  · exact batch (f := mtF b) (g := fun i => mV b (i + 1)) (mt_18 b) i (by omega) (by omega)
  by_cases h : i < 160
  · exact batch (f := mtF b) (g := fun i => mV b (i + 1)) (mt_19 b) i (by omega) (by omega)
  by_cases h : i < 168
  · exact batch (f := mtF b) (g := fun i => mV b (i + 1)) (mt_20 b) i (by omega) (by omega)
  by_cases h : i < 176
  · exact batch (f := mtF b) (g := fun i => mV b (i + 1)) (mt_21 b) i (by omega) (by omega)
  by_cases h : i < 184
  · exact batch (f := mtF b) (g := fun i => mV b (i + 1)) (mt_22 b) i (by omega) (by omega)
  by_cases h : i < 192
  · exact batch (f := mtF b) (g := fun i => mV b (i + 1)) (mt_23 b) i (by omega) (by omega)
  by_cases h : i < 200
  · exact batch (f := mtF b) (g := fun i => mV b (i + 1)) (mt_24 b) i (by omega) (by omega)
  by_cases h : i < 208
  · exact batch (f := mtF b) (g := fun i => mV b (i + 1)) (mt_25 b) i (by omega) (by omega)
  by_cases h : i < 216
  · exact batch (f := mtF b) (g := fun i => mV b (i + 1)) (mt_26 b) i (by omega) (by omega)
  by_cases h : i < 224
  · exact batch (f := mtF b) (g := fun i => mV b (i + 1)) (mt_27 b) i (by omega) (by omega)
  by_cases h : i < 232
  · exact batch (f := mtF b) (g := fun i => mV b (i + 1)) (mt_28 b) i (by omega) (by omega)
  by_cases h : i < 240
  · exact batch (f := mtF b) (g := fun i => mV b (i + 1)) (mt_29 b) i (by omega) (by omega)
  by_cases h : i < 248
  · exact batch (f := mtF b) (g := fun i => mV b (i + 1)) (mt_30 b) i (by omega) (by omega)
  by_cases h : i < 256
  · exact batch (f := mtF b) (g := fun i => mV b (i + 1)) (mt_31 b) i (by omega) (by omega)
  omega
theorem enc8 (n : api_Node) (i : Int) : encArgs [59, 3] ((n, i, ()) : Args U [59, 3]) = [U.enc 59 n, .lit (.int .i64 i)] := rfl
open Classical in
def m_node_Tick (n : api_Node) (i : Int) : Option (api_Node × List api_Timed × List api_MeshEvent) := if n = nodeL n.Relay ∧ 1 ≤ i ∧ i ≤ 256 then some (n, sentL i.toNat, []) else none
def M_node_Tick : Mod U := ⟨[59, 3], 63, fun x => m_node_Tick x.1 x.2.1, by decide⟩
theorem nTick_inv {n : api_Node} {i : Int} {a : api_Node × List api_Timed × List api_MeshEvent} (h : m_node_Tick n i = some a) : ∃ k : Nat, i = Int.ofNat k ∧ 1 ≤ k ∧ k ≤ 256 ∧ n = nodeL n.Relay ∧ a = (n, sentL k, []) := by
  unfold m_node_Tick at h
  split at h
  · rename_i hc
    obtain ⟨hn, h1, h2⟩ := hc
    obtain ⟨k, rfl⟩ := Int.eq_ofNat_of_zero_le (show 0 ≤ i by omega)
    cases h
    exact ⟨k, rfl, by omega, by omega, hn, rfl⟩
  · cases h
theorem tickK_at (b : Bool) (k : Nat) (h1 : 1 ≤ k) (h2 : k ≤ 256) : tickK [nV b, .lit (.int .i64 (Int.ofNat k))] = some (.tup [nV b, U.enc 57 (sentL k), .sl false 11 []]) := by
  have hr : relOf (C0.set 18 (wB b)) = some b := by cases b <;> kernel_rfl
  show (if 1 ≤ k ∧ k ≤ 256 then (relOf (C0.set 18 (wB b))).map fun _ => V.tup [nV b, U.enc 57 (sentL k), .sl false 11 []] else none) = _
  rw [if_pos ⟨h1, h2⟩, hr]
  rfl
theorem ok_node_Tick : FnOK Tryz.prog B0 8 M_node_Tick := fn_of_given rfl gv8 fun x a hx => by
  obtain ⟨n, i, u⟩ := x
  obtain ⟨k, hi, h1, h2, hn, rfl⟩ := nTick_inv (n := n) (i := i) hx
  have he : U.enc 59 n = nV n.Relay := by rw [← nV_eq]; exact congrArg _ hn
  show tickK [U.enc 59 n, .lit (.int .i64 i)] = some (.tup [U.enc 59 n, U.enc 57 (sentL k), .sl false 11 []])
  rw [he, hi]
  exact tickK_at _ k h1 h2
def relM (m : api_Mesh) : Bool := match m.Nodes with
  | n :: _ => n.Relay
  | [] => false
open Classical in
def m_mesh_Tick (m : api_Mesh) : Option api_Mesh := if m = stM (relM m) m.Now.toNat ∧ m.Now.toNat < 256 then some (stM (relM m) (m.Now.toNat + 1)) else none
def M_mesh_Tick : Mod U := ⟨[31], 31, fun x => m_mesh_Tick x.1, by decide⟩
theorem gv7 : GivenOK Tryz.prog gl 7 (fun ys => (runF E2 300 7 ys).map (retypeR [[46, 2, 2, 0, 0, 4, 13]])) := given_retype _ (given_runX (f := 7) mix_ok ckK2 exokK2 hlok10 nilok10 (by rfl) Tryz.func7 (by kernel_rfl) 300)
theorem ok_mesh_Tick : FnOK Tryz.prog B0 7 M_mesh_Tick := fn_of_given rfl gv7 fun x a hx => by
  obtain ⟨m, u⟩ := x
  replace hx : m_mesh_Tick m = some a := hx
  unfold m_mesh_Tick at hx
  split at hx
  · rename_i hc
    obtain ⟨hm, hi⟩ := hc
    cases hx
    have h := mt_all (relM m) m.Now.toNat hi
    show (runF E2 300 7 [U.enc 31 m]).map (retypeR [[46, 2, 2, 0, 0, 4, 13]]) = some (U.enc 31 (stM (relM m) (m.Now.toNat + 1)))
    rw [mV_eq, ← h, show U.enc 31 m = mV (relM m) m.Now.toNat from (congrArg _ hm).trans (mV_eq _ _)]
    rfl
  · cases hx
/-! ### the nodes of the plan, and the mesh at the beginning -/
theorem plV_eq (b : Bool) : U.enc 26 (plL b) = .agg [.sl false 1 [wB b], .sl false 1 [], .sl false 2 [], .sl false 2 []] := rfl
def plV (b : Bool) : V := .agg [.sl false 1 [wB b], .sl false 1 [], .sl false 2 [], .sl false 2 []]
theorem nd6 (b : Bool) : runF E0 300 6 [plV b] = some (.sl false 46 [nV b]) := by kernel_rfl
theorem gv6r : GivenOK Tryz.prog gl 6 (runF E0 300 6) := gv0 (by rfl) Tryz.func6 (by kernel_rfl)
def m_law54_Plan_nodes : wirelesslaw54_Plan → Option (List api_Node)
  | ⟨[r], [], [], []⟩ => some [nodeL r]
  | _ => none
def M_law54_Plan_nodes : Mod U := ⟨[26], 27, fun x => m_law54_Plan_nodes x.1, by decide⟩
theorem ok_law54_Plan_nodes : FnOK Tryz.prog B0 6 M_law54_Plan_nodes := fn_of_given rfl gv6r fun x a hx => by
  obtain ⟨p, u⟩ := x
  replace hx : m_law54_Plan_nodes p = some a := hx
  unfold m_law54_Plan_nodes at hx
  split at hx
  · rename_i r
    cases hx
    show runF E0 300 6 [plV r] = some (.sl false 46 [U.enc 59 (nodeL r)])
    rw [nd6, nV_eq]
  · cases hx
def exK3 : FuncId → Option (List V → Option V)
  | 6 => some (tabF [([plV false], .sl false 46 [nV false]), ([plV true], .sl false 46 [nV true])])
  | g => ex_law54_lives g
theorem gv6 : GivenOK Tryz.prog gl 6 (tabF [([plV false], .sl false 46 [nV false]), ([plV true], .sl false 46 [nV true])]) := given_tab gv6r (tab_cons (nd6 false) (tab_cons (nd6 true) tab_nil))
theorem exokK3 : ∀ g F, exK3 g = some F → GivenOK Tryz.prog gl g F := fun g F h => by
  unfold exK3 at h
  split at h
  · cases h; exact gv6
  · exact exok_law54_lives _ _ h
def fsB : List FuncId := 5 :: 9 :: 12 :: 13 :: 20 :: 21 :: 22 :: 23 :: 24 :: 34 :: 55 :: 33 :: fs10
theorem ckK3 : exCheck Tryz.prog gl fsB pu10 [(58, 4)] [] exK3 hl10 = true := by kernel_rfl
def bgF (b : Bool) : Option V := (runF (EX Tryz.prog gl fsB pu10 [(58, 4)] [] exK3 hl10) 300 5 [plV b]).map (retypeR [[46, 2, 2, 0, 0, 4, 13], [46, 2, 2, 0, 0, 4, 13]])
theorem bg0 : bgF false = some (.tup [mV false 0, mV false 0, .lit (.int .i64 0), .lit (.bool true)]) := by kernel_rfl
theorem bg1 : bgF true = some (.tup [mV true 0, mV true 0, .lit (.int .i64 0), .lit (.bool true)]) := by kernel_rfl
def m_law54_begin : wirelesslaw54_Plan → Option (api_Mesh × api_Mesh × Int × Bool)
  | ⟨[r], [], [], []⟩ => some (stM r 0, stM r 0, 0, true)
  | _ => none
def M_law54_begin : Mod U := ⟨[26], 33, fun x => m_law54_begin x.1, by decide⟩
theorem gv5 : GivenOK Tryz.prog gl 5 (fun ys => (runF (EX Tryz.prog gl fsB pu10 [(58, 4)] [] exK3 hl10) 300 5 ys).map (retypeR [[46, 2, 2, 0, 0, 4, 13], [46, 2, 2, 0, 0, 4, 13]])) := given_retype _ (given_runX (f := 5) mix_ok ckK3 exokK3 hlok10 nilok10 (by rfl) Tryz.func5 (by kernel_rfl) 300)
theorem ok_law54_begin : FnOK Tryz.prog B0 5 M_law54_begin := fn_of_given rfl gv5 fun x a hx => by
  obtain ⟨p, u⟩ := x
  replace hx : m_law54_begin p = some a := hx
  unfold m_law54_begin at hx
  split at hx
  · rename_i r
    cases hx
    show bgF r = some (.tup [U.enc 31 (stM r 0), U.enc 31 (stM r 0), .lit (.int .i64 0), .lit (.bool true)])
    rw [mV_eq]
    cases r
    · exact bg0
    · exact bg1
  · cases hx
end
end Go.Proofs.YtpikcdlhgiooaaaGreat
