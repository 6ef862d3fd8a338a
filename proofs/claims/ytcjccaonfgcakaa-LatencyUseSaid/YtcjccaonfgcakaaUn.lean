/-
  The program's types as types of Lean (printed by a program of mine).
-/
import Derived.Test.YtcjccaonfgcakaaLe36
import Derived.Test.YtcjccaonfgcakaaProg
import Derived.KernelRfl
namespace Go.Proofs.Ytcjccaonfgcakaa
open Go Go.Proofs.Ytcjccaonfgcakaa.Le
set_option linter.unusedVariables false
set_option maxRecDepth 100000
structure api_Listening where
  Latency : Int
  Skipped : Int
  Full : Bool
structure wirelesslaw25_Turn where
  Do : Int
  Acked : Bool
  Latency : Int
@[reducible] def Ty : Nat → Type
  | 31 => api_Listening
  | 3 => Int
  | 4 => Bool
  | 36 => Int
  | 37 => api_Listening × Int
  | 42 => wirelesslaw25_Turn
  | 40 => List wirelesslaw25_Turn
  | _ => Empty
def cd30 : Codec Ty api_Listening := Codec.iso (fun x => (x.Latency, x.Skipped, x.Full, ())) (fun p => ⟨p.1, p.2.1, p.2.2.1⟩) (Codec.pair (Codec.int .i64 : Codec Ty Int) (Codec.pair (Codec.int .i64 : Codec Ty Int) (Codec.pair (Codec.bool : Codec Ty Bool) Codec.unit)))
def cd41 : Codec Ty wirelesslaw25_Turn := Codec.iso (fun x => (x.Do, x.Acked, x.Latency, ())) (fun p => ⟨p.1, p.2.1, p.2.2.1⟩) (Codec.pair (Codec.int .i64 : Codec Ty Int) (Codec.pair (Codec.bool : Codec Ty Bool) (Codec.pair (Codec.int .i64 : Codec Ty Int) Codec.unit)))
@[reducible] def U : Univ where
  Ty := Ty
  esz := fun t => match t with
    | 31 => 3
    | 3 => 1
    | 4 => 1
    | 36 => 1
    | 37 => 1
    | 42 => 3
    | 40 => 1
    | _ => 0
  enc := fun t => match t with
    | 31 => fun (a : api_Listening) => .agg (cd30.encV a)
    | 3 => fun (a : Int) => ((Codec.int .i64 : Codec Ty Int)).oneV a
    | 4 => fun (a : Bool) => ((Codec.bool : Codec Ty Bool)).oneV a
    | 36 => fun (a : Int) => ((Codec.int .i64 : Codec Ty Int)).oneV a
    | 37 => fun (a : api_Listening × Int) => .tup [(.agg (cd30.encV a.1)), (((Codec.int .i64 : Codec Ty Int)).oneV a.2)]
    | 42 => fun (a : wirelesslaw25_Turn) => .agg (cd41.encV a)
    | 40 => fun (a : List wirelesslaw25_Turn) => ((Codec.list 42 3 (fun (a : wirelesslaw25_Turn) => .agg (cd41.encV a)) : Codec Ty (List (Ty 42)))).oneV a
    | _ => fun _ => .no
  encS := fun t => match t with
    | 31 => fun (a : api_Listening) => .agg (cd30.encS a)
    | 3 => fun (a : Int) => ((Codec.int .i64 : Codec Ty Int)).oneS a
    | 4 => fun (a : Bool) => ((Codec.bool : Codec Ty Bool)).oneS a
    | 36 => fun (a : Int) => ((Codec.int .i64 : Codec Ty Int)).oneS a
    | 37 => fun (a : api_Listening × Int) => .tup [(.agg (cd30.encS a.1)), (((Codec.int .i64 : Codec Ty Int)).oneS a.2)]
    | 42 => fun (a : wirelesslaw25_Turn) => .agg (cd41.encS a)
    | 40 => fun (a : List wirelesslaw25_Turn) => ((Codec.list 42 3 (fun (a : wirelesslaw25_Turn) => .agg (cd41.encV a)) : Codec Ty (List (Ty 42)))).oneS a
    | _ => fun _ => .no
  decS := fun t => match t with
    | 31 => fun v => cd30.agg v
    | 3 => fun v => ((Codec.int .i64 : Codec Ty Int)).one v
    | 4 => fun v => ((Codec.bool : Codec Ty Bool)).one v
    | 36 => fun v => ((Codec.int .i64 : Codec Ty Int)).one v
    | 37 => fun _ => none
    | 42 => fun v => cd41.agg v
    | 40 => fun v => ((Codec.list 42 3 (fun (a : wirelesslaw25_Turn) => .agg (cd41.encV a)) : Codec Ty (List (Ty 42)))).one v
    | _ => fun _ => none
  keys := [31, 3, 4, 36, 37, 42, 40]
theorem cdok30 : CodecOK U cd30 [0, 0, 0] := CodecOK.iso ((CodecOK.int _).pair ((CodecOK.int _).pair ((CodecOK.bool).pair CodecOK.unit))) (fun _ => rfl) (fun _ => rfl)
theorem cdok41 : CodecOK U cd41 [0, 0, 0] := CodecOK.iso ((CodecOK.int _).pair ((CodecOK.bool).pair ((CodecOK.int _).pair CodecOK.unit))) (fun _ => rfl) (fun _ => rfl)
theorem rows31 : rowsOf Try.prog 31 = [0, 0, 0] := by kernel_rfl
theorem tyok31 {E : Env} (hE : E.rows = rowsOf Try.prog) : TyOK U E 31 := ⟨fun a => congrArg V.agg (cdok30.enc a), fun v a h => by rw [hE, rows31]; exact cdok30.agg h, fun a => (cdok30.enc a).symm, fun a => cdok30.nr a, fun a b h => cdok30.inj _ _ (by injection h)⟩
theorem rows3 : rowsOf Try.prog 3 = [0] := by kernel_rfl
theorem tyok3 {E : Env} (hE : E.rows = rowsOf Try.prog) : TyOK U E 3 :=
  have c : CodecOK U (Codec.int .i64 : Codec Ty Int) [0] := CodecOK.int _
  ⟨fun a => c.oneEnc a, fun v a h => by rw [hE, rows3]; exact c.one h (na_int h), fun a => by first | rfl | exact (congrArg (fun x => [x]) (c.oneEnc a).symm), fun a => c.oneNr a, fun a b h => c.oneInj h⟩
theorem rows4 : rowsOf Try.prog 4 = [0] := by kernel_rfl
theorem tyok4 {E : Env} (hE : E.rows = rowsOf Try.prog) : TyOK U E 4 :=
  have c : CodecOK U (Codec.bool : Codec Ty Bool) [0] := CodecOK.bool
  ⟨fun a => c.oneEnc a, fun v a h => by rw [hE, rows4]; exact c.one h (na_bool h), fun a => by first | rfl | exact (congrArg (fun x => [x]) (c.oneEnc a).symm), fun a => c.oneNr a, fun a b h => c.oneInj h⟩
theorem rows36 : rowsOf Try.prog 36 = [0] := by kernel_rfl
theorem tyok36 {E : Env} (hE : E.rows = rowsOf Try.prog) : TyOK U E 36 :=
  have c : CodecOK U (Codec.int .i64 : Codec Ty Int) [0] := CodecOK.int _
  ⟨fun a => c.oneEnc a, fun v a h => by rw [hE, rows36]; exact c.one h (na_int h), fun a => by first | rfl | exact (congrArg (fun x => [x]) (c.oneEnc a).symm), fun a => c.oneNr a, fun a b h => c.oneInj h⟩
theorem tyok37 {E : Env} (hE : E.rows = rowsOf Try.prog) : TyOK U E 37 := by
  refine ⟨fun a => ?_, fun v a h => (by cases h), fun a => ?_, fun a => ?_, fun a b h => ?_⟩
  · first | rfl | skip
    all_goals show V.tup _ = V.tup _
    all_goals congr 1
    all_goals simp only [toVs, show toV U (.agg (cd30.encS a.1)) = (.agg (cd30.encV a.1)) from (tyok31 hE).encS a.1, show toV U (((Codec.int .i64 : Codec Ty Int)).oneS a.2) = (((Codec.int .i64 : Codec Ty Int)).oneV a.2) from (tyok36 hE).encS a.2]
  · first | rfl | skip
    all_goals show [V.tup _] = [V.tup _]
    all_goals congr 2
    all_goals simp only [toVs, show toV U (.agg (cd30.encS a.1)) = (.agg (cd30.encV a.1)) from (tyok31 hE).encS a.1, show toV U (((Codec.int .i64 : Codec Ty Int)).oneS a.2) = (((Codec.int .i64 : Codec Ty Int)).oneV a.2) from (tyok36 hE).encS a.2]
  · show noRefs [.agg (cd30.encV a.1), ((Codec.int .i64 : Codec Ty Int)).oneV a.2] = true
    simp only [noRefs, show noRef (.agg (cd30.encV a.1)) = true from (tyok31 hE).nr a.1, show noRef (((Codec.int .i64 : Codec Ty Int)).oneV a.2) = true from (tyok36 hE).nr a.2, Bool.and_self]
  · have h : V.tup [.agg (cd30.encV a.1), ((Codec.int .i64 : Codec Ty Int)).oneV a.2] = V.tup [.agg (cd30.encV b.1), ((Codec.int .i64 : Codec Ty Int)).oneV b.2] := h
    simp only [V.tup.injEq, List.cons.injEq, and_true] at h
    exact Prod.ext ((tyok31 hE).inj _ _ h.1) ((tyok36 hE).inj _ _ h.2)
theorem rows42 : rowsOf Try.prog 42 = [0, 0, 0] := by kernel_rfl
theorem tyok42 {E : Env} (hE : E.rows = rowsOf Try.prog) : TyOK U E 42 := ⟨fun a => congrArg V.agg (cdok41.enc a), fun v a h => by rw [hE, rows42]; exact cdok41.agg h, fun a => (cdok41.enc a).symm, fun a => cdok41.nr a, fun a b h => cdok41.inj _ _ (by injection h)⟩
theorem rows40 : rowsOf Try.prog 40 = [3] := by kernel_rfl
theorem tyok40 {E : Env} (hE : E.rows = rowsOf Try.prog) : TyOK U E 40 :=
  have c : CodecOK U (Codec.list 42 3 (fun (a : wirelesslaw25_Turn) => .agg (cd41.encV a)) : Codec Ty (List (Ty 42))) [3] := CodecOK.list (fun _ => rfl) rfl (fun a => cdok41.nr a) (fun a b h => cdok41.inj _ _ (by injection h))
  ⟨fun a => c.oneEnc a, fun v a h => by rw [hE, rows40]; exact c.one h (na_list (U := U) (t := 42) (n := 3) (e := fun (a : wirelesslaw25_Turn) => .agg (cd41.encV a)) h), fun a => by first | rfl | exact (congrArg (fun x => [x]) (c.oneEnc a).symm), fun a => c.oneNr a, fun a b h => c.oneInj h⟩
theorem ty_empty (t : Nat) (h31 : ¬ t = 31) (h3 : ¬ t = 3) (h4 : ¬ t = 4) (h36 : ¬ t = 36) (h37 : ¬ t = 37) (h42 : ¬ t = 42) (h40 : ¬ t = 40) (a : Ty t) : False := by
  unfold Ty at a
  split at a <;> first | contradiction | exact a.elim
theorem univ_ok (E : Env) (hE : E.rows = rowsOf Try.prog) : UnivOK U E := by
  refine ⟨?_, ?_, ?_, ?_, ?_⟩
  · intro t
    by_cases h31 : t = 31
    · subst h31; exact fun a => (tyok31 hE).encS a
    by_cases h3 : t = 3
    · subst h3; exact fun a => (tyok3 hE).encS a
    by_cases h4 : t = 4
    · subst h4; exact fun a => (tyok4 hE).encS a
    by_cases h36 : t = 36
    · subst h36; exact fun a => (tyok36 hE).encS a
    by_cases h37 : t = 37
    · subst h37; exact fun a => (tyok37 hE).encS a
    by_cases h42 : t = 42
    · subst h42; exact fun a => (tyok42 hE).encS a
    by_cases h40 : t = 40
    · subst h40; exact fun a => (tyok40 hE).encS a
    exact fun a => (ty_empty t h31 h3 h4 h36 h37 h42 h40 a).elim
  · intro t
    by_cases h31 : t = 31
    · subst h31; exact fun v a h => (tyok31 hE).dec v a h
    by_cases h3 : t = 3
    · subst h3; exact fun v a h => (tyok3 hE).dec v a h
    by_cases h4 : t = 4
    · subst h4; exact fun v a h => (tyok4 hE).dec v a h
    by_cases h36 : t = 36
    · subst h36; exact fun v a h => (tyok36 hE).dec v a h
    by_cases h37 : t = 37
    · subst h37; exact fun v a h => (tyok37 hE).dec v a h
    by_cases h42 : t = 42
    · subst h42; exact fun v a h => (tyok42 hE).dec v a h
    by_cases h40 : t = 40
    · subst h40; exact fun v a h => (tyok40 hE).dec v a h
    exact fun v a h => (ty_empty t h31 h3 h4 h36 h37 h42 h40 a).elim
  · intro t
    by_cases h31 : t = 31
    · subst h31; exact fun a => (tyok31 hE).cells a
    by_cases h3 : t = 3
    · subst h3; exact fun a => (tyok3 hE).cells a
    by_cases h4 : t = 4
    · subst h4; exact fun a => (tyok4 hE).cells a
    by_cases h36 : t = 36
    · subst h36; exact fun a => (tyok36 hE).cells a
    by_cases h37 : t = 37
    · subst h37; exact fun a => (tyok37 hE).cells a
    by_cases h42 : t = 42
    · subst h42; exact fun a => (tyok42 hE).cells a
    by_cases h40 : t = 40
    · subst h40; exact fun a => (tyok40 hE).cells a
    exact fun a => (ty_empty t h31 h3 h4 h36 h37 h42 h40 a).elim
  · intro t
    by_cases h31 : t = 31
    · subst h31; exact fun a => (tyok31 hE).nr a
    by_cases h3 : t = 3
    · subst h3; exact fun a => (tyok3 hE).nr a
    by_cases h4 : t = 4
    · subst h4; exact fun a => (tyok4 hE).nr a
    by_cases h36 : t = 36
    · subst h36; exact fun a => (tyok36 hE).nr a
    by_cases h37 : t = 37
    · subst h37; exact fun a => (tyok37 hE).nr a
    by_cases h42 : t = 42
    · subst h42; exact fun a => (tyok42 hE).nr a
    by_cases h40 : t = 40
    · subst h40; exact fun a => (tyok40 hE).nr a
    exact fun a => (ty_empty t h31 h3 h4 h36 h37 h42 h40 a).elim
  · intro t ht
    by_cases h31 : t = 31
    · subst h31; exact fun a b h => (tyok31 hE).inj a b h
    by_cases h3 : t = 3
    · subst h3; exact fun a b h => (tyok3 hE).inj a b h
    by_cases h4 : t = 4
    · subst h4; exact fun a b h => (tyok4 hE).inj a b h
    by_cases h36 : t = 36
    · subst h36; exact fun a b h => (tyok36 hE).inj a b h
    by_cases h37 : t = 37
    · subst h37; exact fun a b h => (tyok37 hE).inj a b h
    by_cases h42 : t = 42
    · subst h42; exact fun a b h => (tyok42 hE).inj a b h
    by_cases h40 : t = 40
    · subst h40; exact fun a b h => (tyok40 hE).inj a b h
    exact absurd ht (by simp [h31, h3, h4, h36, h37, h42, h40])

noncomputable def gl : Nat → Option (List V) := fun _ => none
theorem mix_ok : Try.prog.follows .mixedOrders = true := by kernel_rfl
noncomputable def B0 : Env := EV (U := U) Try.prog gl 0 (fun _ => none)
end Go.Proofs.Ytcjccaonfgcakaa
