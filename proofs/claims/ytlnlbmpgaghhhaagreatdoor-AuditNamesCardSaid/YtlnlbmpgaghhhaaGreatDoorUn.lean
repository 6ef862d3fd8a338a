/-
  The program's types as types of Lean (printed by a program of mine).
-/
import Derived.Test.YtlnlbmpgaghhhaaGreatDoorLd
import Derived.Test.YtlnlbmpgaghhhaaGreatDoorProg
import Derived.KernelRfl
namespace Go.Proofs.YtlnlbmpgaghhhaaGreatDoor
open Go Go.Proofs.YtlnlbmpgaghhhaaGreatDoor.Le
set_option linter.unusedVariables false
set_option maxRecDepth 100000
structure api_Fault where
  Kind : Int
  Device : Int
  Conn : Int
@[reducible] def z_api_Fault : api_Fault := ⟨(0 : Int), (0 : Int), (0 : Int)⟩
structure Anon79 where
  x0 : ByteArray
  x1 : ByteArray
  x2 : ByteArray
  x3 : ByteArray
  x4 : ByteArray
  x5 : ByteArray
  x6 : ByteArray
  x7 : ByteArray
@[reducible] def z_Anon79 : Anon79 := ⟨(⟨#[]⟩ : ByteArray), (⟨#[]⟩ : ByteArray), (⟨#[]⟩ : ByteArray), (⟨#[]⟩ : ByteArray), (⟨#[]⟩ : ByteArray), (⟨#[]⟩ : ByteArray), (⟨#[]⟩ : ByteArray), (⟨#[]⟩ : ByteArray)⟩
@[reducible] def Ty : Nat → Type
  | 9 => ByteArray
  | 80 => List ByteArray
  | 5 => Int
  | 57 => List Int
  | 4 => Bool
  | 62 => api_Fault
  | 22 => List api_Fault
  | 79 => Anon79
  | _ => Empty
def cd61 : Codec Ty api_Fault := Codec.iso (fun x => (x.Kind, x.Device, x.Conn, ())) (fun p => ⟨p.1, p.2.1, p.2.2.1⟩) (Codec.pair (Codec.int .i64 : Codec Ty Int) (Codec.pair (Codec.int .i64 : Codec Ty Int) (Codec.pair (Codec.int .i64 : Codec Ty Int) Codec.unit)))
def cd79 : Codec Ty Anon79 := Codec.iso (fun x => (x.x0, x.x1, x.x2, x.x3, x.x4, x.x5, x.x6, x.x7, ())) (fun p => ⟨p.1, p.2.1, p.2.2.1, p.2.2.2.1, p.2.2.2.2.1, p.2.2.2.2.2.1, p.2.2.2.2.2.2.1, p.2.2.2.2.2.2.2.1⟩) (Codec.pair (Codec.str : Codec Ty ByteArray) (Codec.pair (Codec.str : Codec Ty ByteArray) (Codec.pair (Codec.str : Codec Ty ByteArray) (Codec.pair (Codec.str : Codec Ty ByteArray) (Codec.pair (Codec.str : Codec Ty ByteArray) (Codec.pair (Codec.str : Codec Ty ByteArray) (Codec.pair (Codec.str : Codec Ty ByteArray) (Codec.pair (Codec.str : Codec Ty ByteArray) Codec.unit))))))))
@[reducible] def U : Univ where
  Ty := Ty
  esz := fun t => match t with
    | 9 => 1
    | 80 => 1
    | 5 => 1
    | 57 => 1
    | 4 => 1
    | 62 => 3
    | 22 => 1
    | 79 => 8
    | _ => 0
  enc := fun t => match t with
    | 9 => fun (a : ByteArray) => ((Codec.str : Codec Ty ByteArray)).oneV a
    | 80 => fun (a : List ByteArray) => ((Codec.list 9 1 (fun (a : ByteArray) => ((Codec.str : Codec Ty ByteArray)).oneV a) : Codec Ty (List (Ty 9)))).oneV a
    | 5 => fun (a : Int) => ((Codec.int .u8 : Codec Ty Int)).oneV a
    | 57 => fun (a : List Int) => ((Codec.list 5 1 (fun (a : Int) => ((Codec.int .u8 : Codec Ty Int)).oneV a) : Codec Ty (List (Ty 5)))).oneV a
    | 4 => fun (a : Bool) => ((Codec.bool : Codec Ty Bool)).oneV a
    | 62 => fun (a : api_Fault) => .agg (cd61.encV a)
    | 22 => fun (a : List api_Fault) => ((Codec.list 62 3 (fun (a : api_Fault) => .agg (cd61.encV a)) : Codec Ty (List (Ty 62)))).oneV a
    | 79 => fun (a : Anon79) => .agg (cd79.encV a)
    | _ => fun _ => .no
  encS := fun t => match t with
    | 9 => fun (a : ByteArray) => ((Codec.str : Codec Ty ByteArray)).oneS a
    | 80 => fun (a : List ByteArray) => ((Codec.list 9 1 (fun (a : ByteArray) => ((Codec.str : Codec Ty ByteArray)).oneV a) : Codec Ty (List (Ty 9)))).oneS a
    | 5 => fun (a : Int) => ((Codec.int .u8 : Codec Ty Int)).oneS a
    | 57 => fun (a : List Int) => ((Codec.list 5 1 (fun (a : Int) => ((Codec.int .u8 : Codec Ty Int)).oneV a) : Codec Ty (List (Ty 5)))).oneS a
    | 4 => fun (a : Bool) => ((Codec.bool : Codec Ty Bool)).oneS a
    | 62 => fun (a : api_Fault) => .agg (cd61.encS a)
    | 22 => fun (a : List api_Fault) => ((Codec.list 62 3 (fun (a : api_Fault) => .agg (cd61.encV a)) : Codec Ty (List (Ty 62)))).oneS a
    | 79 => fun (a : Anon79) => .agg (cd79.encS a)
    | _ => fun _ => .no
  decS := fun t => match t with
    | 9 => fun v => ((Codec.str : Codec Ty ByteArray)).one v
    | 80 => fun v => ((Codec.list 9 1 (fun (a : ByteArray) => ((Codec.str : Codec Ty ByteArray)).oneV a) : Codec Ty (List (Ty 9)))).one v
    | 5 => fun v => ((Codec.int .u8 : Codec Ty Int)).one v
    | 57 => fun v => ((Codec.list 5 1 (fun (a : Int) => ((Codec.int .u8 : Codec Ty Int)).oneV a) : Codec Ty (List (Ty 5)))).one v
    | 4 => fun v => ((Codec.bool : Codec Ty Bool)).one v
    | 62 => fun v => cd61.agg v
    | 22 => fun v => ((Codec.list 62 3 (fun (a : api_Fault) => .agg (cd61.encV a)) : Codec Ty (List (Ty 62)))).one v
    | 79 => fun v => cd79.agg v
    | _ => fun _ => none
  keys := [9, 80, 5, 57, 4, 62, 22, 79]
theorem cdok61 : CodecOK U cd61 [0, 0, 0] := CodecOK.iso ((CodecOK.int _).pair ((CodecOK.int _).pair ((CodecOK.int _).pair CodecOK.unit))) (fun _ => rfl) (fun _ => rfl)
theorem cdok79 : CodecOK U cd79 [0, 0, 0, 0, 0, 0, 0, 0] := CodecOK.iso ((CodecOK.str).pair ((CodecOK.str).pair ((CodecOK.str).pair ((CodecOK.str).pair ((CodecOK.str).pair ((CodecOK.str).pair ((CodecOK.str).pair ((CodecOK.str).pair CodecOK.unit)))))))) (fun _ => rfl) (fun _ => rfl)
theorem rows9 : rowsOf Tryz.prog 9 = [0] := by kernel_rfl
theorem tyok9 {E : Env} (hE : E.rows = rowsOf Tryz.prog) : TyOK U E 9 :=
  have c : CodecOK U (Codec.str : Codec Ty ByteArray) [0] := CodecOK.str
  ⟨fun a => c.oneEnc a, fun v a h => by rw [hE, rows9]; exact c.one h (na_str h), fun a => by first | rfl | exact (congrArg (fun x => [x]) (c.oneEnc a).symm), fun a => c.oneNr a, fun a b h => c.oneInj h⟩
theorem rows80 : rowsOf Tryz.prog 80 = [1] := by kernel_rfl
theorem tyok80 {E : Env} (hE : E.rows = rowsOf Tryz.prog) : TyOK U E 80 :=
  have c : CodecOK U (Codec.list 9 1 (fun (a : ByteArray) => ((Codec.str : Codec Ty ByteArray)).oneV a) : Codec Ty (List (Ty 9))) [1] := CodecOK.list (U := U) (t := 9) (n := 1) (e := fun (a : ByteArray) => ((Codec.str : Codec Ty ByteArray)).oneV a) (fun _ => rfl) rfl (fun a => (CodecOK.str : CodecOK U (Codec.str : Codec Ty ByteArray) _).oneNr a) (fun a b h => (CodecOK.str : CodecOK U (Codec.str : Codec Ty ByteArray) _).oneInj h)
  ⟨fun a => c.oneEnc a, fun v a h => by rw [hE, rows80]; exact c.one h (na_list (U := U) (t := 9) (n := 1) (e := fun (a : ByteArray) => ((Codec.str : Codec Ty ByteArray)).oneV a) h), fun a => by first | rfl | exact (congrArg (fun x => [x]) (c.oneEnc a).symm), fun a => c.oneNr a, fun a b h => c.oneInj h⟩
theorem rows5 : rowsOf Tryz.prog 5 = [0] := by kernel_rfl
theorem tyok5 {E : Env} (hE : E.rows = rowsOf Tryz.prog) : TyOK U E 5 :=
  have c : CodecOK U (Codec.int .u8 : Codec Ty Int) [0] := CodecOK.int _
  ⟨fun a => c.oneEnc a, fun v a h => by rw [hE, rows5]; exact c.one h (na_int h), fun a => by first | rfl | exact (congrArg (fun x => [x]) (c.oneEnc a).symm), fun a => c.oneNr a, fun a b h => c.oneInj h⟩
theorem rows57 : rowsOf Tryz.prog 57 = [1] := by kernel_rfl
theorem tyok57 {E : Env} (hE : E.rows = rowsOf Tryz.prog) : TyOK U E 57 :=
  have c : CodecOK U (Codec.list 5 1 (fun (a : Int) => ((Codec.int .u8 : Codec Ty Int)).oneV a) : Codec Ty (List (Ty 5))) [1] := CodecOK.list (U := U) (t := 5) (n := 1) (e := fun (a : Int) => ((Codec.int .u8 : Codec Ty Int)).oneV a) (fun _ => rfl) rfl (fun a => (CodecOK.int _ : CodecOK U (Codec.int .u8 : Codec Ty Int) _).oneNr a) (fun a b h => (CodecOK.int _ : CodecOK U (Codec.int .u8 : Codec Ty Int) _).oneInj h)
  ⟨fun a => c.oneEnc a, fun v a h => by rw [hE, rows57]; exact c.one h (na_list (U := U) (t := 5) (n := 1) (e := fun (a : Int) => ((Codec.int .u8 : Codec Ty Int)).oneV a) h), fun a => by first | rfl | exact (congrArg (fun x => [x]) (c.oneEnc a).symm), fun a => c.oneNr a, fun a b h => c.oneInj h⟩
theorem rows4 : rowsOf Tryz.prog 4 = [0] := by kernel_rfl
theorem tyok4 {E : Env} (hE : E.rows = rowsOf Tryz.prog) : TyOK U E 4 :=
  have c : CodecOK U (Codec.bool : Codec Ty Bool) [0] := CodecOK.bool
  ⟨fun a => c.oneEnc a, fun v a h => by rw [hE, rows4]; exact c.one h (na_bool h), fun a => by first | rfl | exact (congrArg (fun x => [x]) (c.oneEnc a).symm), fun a => c.oneNr a, fun a b h => c.oneInj h⟩
theorem rows62 : rowsOf Tryz.prog 62 = [0, 0, 0] := by kernel_rfl
theorem tyok62 {E : Env} (hE : E.rows = rowsOf Tryz.prog) : TyOK U E 62 := ⟨fun a => congrArg V.agg (cdok61.enc a), fun v a h => by rw [hE, rows62]; exact cdok61.agg h, fun a => (cdok61.enc a).symm, fun a => cdok61.nr a, fun a b h => cdok61.inj _ _ (by injection h)⟩
theorem rows22 : rowsOf Tryz.prog 22 = [3] := by kernel_rfl
theorem tyok22 {E : Env} (hE : E.rows = rowsOf Tryz.prog) : TyOK U E 22 :=
  have c : CodecOK U (Codec.list 62 3 (fun (a : api_Fault) => .agg (cd61.encV a)) : Codec Ty (List (Ty 62))) [3] := CodecOK.list (U := U) (t := 62) (n := 3) (e := fun (a : api_Fault) => .agg (cd61.encV a)) (fun _ => rfl) rfl (fun a => cdok61.nr a) (fun a b h => cdok61.inj _ _ (by injection h))
  ⟨fun a => c.oneEnc a, fun v a h => by rw [hE, rows22]; exact c.one h (na_list (U := U) (t := 62) (n := 3) (e := fun (a : api_Fault) => .agg (cd61.encV a)) h), fun a => by first | rfl | exact (congrArg (fun x => [x]) (c.oneEnc a).symm), fun a => c.oneNr a, fun a b h => c.oneInj h⟩
theorem rows79 : rowsOf Tryz.prog 79 = [0, 0, 0, 0, 0, 0, 0, 0] := by kernel_rfl
theorem tyok79 {E : Env} (hE : E.rows = rowsOf Tryz.prog) : TyOK U E 79 := ⟨fun a => congrArg V.agg (cdok79.enc a), fun v a h => by rw [hE, rows79]; exact cdok79.agg h, fun a => (cdok79.enc a).symm, fun a => cdok79.nr a, fun a b h => cdok79.inj _ _ (by injection h)⟩
theorem ty_empty (t : Nat) (h9 : ¬ t = 9) (h80 : ¬ t = 80) (h5 : ¬ t = 5) (h57 : ¬ t = 57) (h4 : ¬ t = 4) (h62 : ¬ t = 62) (h22 : ¬ t = 22) (h79 : ¬ t = 79) (a : Ty t) : False := by
  unfold Ty at a
  split at a <;> first | contradiction | exact a.elim
theorem univ_ok (E : Env) (hE : E.rows = rowsOf Tryz.prog) : UnivOK U E := by
  refine ⟨?_, ?_, ?_, ?_, ?_⟩
  · intro t
    by_cases h9 : t = 9
    · subst h9; exact fun a => (tyok9 hE).encS a
    by_cases h80 : t = 80
    · subst h80; exact fun a => (tyok80 hE).encS a
    by_cases h5 : t = 5
    · subst h5; exact fun a => (tyok5 hE).encS a
    by_cases h57 : t = 57
    · subst h57; exact fun a => (tyok57 hE).encS a
    by_cases h4 : t = 4
    · subst h4; exact fun a => (tyok4 hE).encS a
    by_cases h62 : t = 62
    · subst h62; exact fun a => (tyok62 hE).encS a
    by_cases h22 : t = 22
    · subst h22; exact fun a => (tyok22 hE).encS a
    by_cases h79 : t = 79
    · subst h79; exact fun a => (tyok79 hE).encS a
    exact fun a => (ty_empty t h9 h80 h5 h57 h4 h62 h22 h79 a).elim
  · intro t
    by_cases h9 : t = 9
    · subst h9; exact fun v a h => (tyok9 hE).dec v a h
    by_cases h80 : t = 80
    · subst h80; exact fun v a h => (tyok80 hE).dec v a h
    by_cases h5 : t = 5
    · subst h5; exact fun v a h => (tyok5 hE).dec v a h
    by_cases h57 : t = 57
    · subst h57; exact fun v a h => (tyok57 hE).dec v a h
    by_cases h4 : t = 4
    · subst h4; exact fun v a h => (tyok4 hE).dec v a h
    by_cases h62 : t = 62
    · subst h62; exact fun v a h => (tyok62 hE).dec v a h
    by_cases h22 : t = 22
    · subst h22; exact fun v a h => (tyok22 hE).dec v a h
    by_cases h79 : t = 79
    · subst h79; exact fun v a h => (tyok79 hE).dec v a h
    exact fun v a h => (ty_empty t h9 h80 h5 h57 h4 h62 h22 h79 a).elim
  · intro t
    by_cases h9 : t = 9
    · subst h9; exact fun a => (tyok9 hE).cells a
    by_cases h80 : t = 80
    · subst h80; exact fun a => (tyok80 hE).cells a
    by_cases h5 : t = 5
    · subst h5; exact fun a => (tyok5 hE).cells a
    by_cases h57 : t = 57
    · subst h57; exact fun a => (tyok57 hE).cells a
    by_cases h4 : t = 4
    · subst h4; exact fun a => (tyok4 hE).cells a
    by_cases h62 : t = 62
    · subst h62; exact fun a => (tyok62 hE).cells a
    by_cases h22 : t = 22
    · subst h22; exact fun a => (tyok22 hE).cells a
    by_cases h79 : t = 79
    · subst h79; exact fun a => (tyok79 hE).cells a
    exact fun a => (ty_empty t h9 h80 h5 h57 h4 h62 h22 h79 a).elim
  · intro t
    by_cases h9 : t = 9
    · subst h9; exact fun a => (tyok9 hE).nr a
    by_cases h80 : t = 80
    · subst h80; exact fun a => (tyok80 hE).nr a
    by_cases h5 : t = 5
    · subst h5; exact fun a => (tyok5 hE).nr a
    by_cases h57 : t = 57
    · subst h57; exact fun a => (tyok57 hE).nr a
    by_cases h4 : t = 4
    · subst h4; exact fun a => (tyok4 hE).nr a
    by_cases h62 : t = 62
    · subst h62; exact fun a => (tyok62 hE).nr a
    by_cases h22 : t = 22
    · subst h22; exact fun a => (tyok22 hE).nr a
    by_cases h79 : t = 79
    · subst h79; exact fun a => (tyok79 hE).nr a
    exact fun a => (ty_empty t h9 h80 h5 h57 h4 h62 h22 h79 a).elim
  · intro t ht
    by_cases h9 : t = 9
    · subst h9; exact fun a b h => (tyok9 hE).inj a b h
    by_cases h80 : t = 80
    · subst h80; exact fun a b h => (tyok80 hE).inj a b h
    by_cases h5 : t = 5
    · subst h5; exact fun a b h => (tyok5 hE).inj a b h
    by_cases h57 : t = 57
    · subst h57; exact fun a b h => (tyok57 hE).inj a b h
    by_cases h4 : t = 4
    · subst h4; exact fun a b h => (tyok4 hE).inj a b h
    by_cases h62 : t = 62
    · subst h62; exact fun a b h => (tyok62 hE).inj a b h
    by_cases h22 : t = 22
    · subst h22; exact fun a b h => (tyok22 hE).inj a b h
    by_cases h79 : t = 79
    · subst h79; exact fun a b h => (tyok79 hE).inj a b h
    exact absurd ht (by simp [h9, h80, h5, h57, h4, h62, h22, h79])

noncomputable def gl : Nat → Option (List V) := fun _ => none

theorem mix_ok : Tryz.prog.follows .mixedOrders = true := by kernel_rfl
noncomputable def noH : FuncId → List FuncId → Option (HMod U) := fun _ _ => none
noncomputable def B0 : Env := EV (U := U) Tryz.prog gl 0 (fun _ => none) noH
end Go.Proofs.YtlnlbmpgaghhhaaGreatDoor
