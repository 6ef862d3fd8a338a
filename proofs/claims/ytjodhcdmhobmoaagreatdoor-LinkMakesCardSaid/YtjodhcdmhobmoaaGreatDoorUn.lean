/-
  The program's types as types of Lean (printed by a program of mine).
-/
import Derived.Test.YtjodhcdmhobmoaaGreatDoorLd
import Derived.Test.YtjodhcdmhobmoaaGreatDoorProg
import Derived.KernelRfl
namespace Go.Proofs.YtjodhcdmhobmoaaGreatDoor
open Go Go.Proofs.YtjodhcdmhobmoaaGreatDoor.Le
set_option linter.unusedVariables false
set_option maxRecDepth 100000
structure connect_span where
  f_n : Int
  f_low : Int
  f_high : Int
@[reducible] def z_connect_span : connect_span := ⟨(0 : Int), (0 : Int), (0 : Int)⟩
structure api_Update where
  WinSize : Int
  WinOffset : Int
  Interval : Int
  Latency : Int
  Timeout : Int
@[reducible] def z_api_Update : api_Update := ⟨(0 : Int), (0 : Int), (0 : Int), (0 : Int), (0 : Int)⟩
structure api_ConnParams where
  Access : Int
  Init : Int
  Update : api_Update
  Map : Int
  Hop : Int
  PPM : Int
  Algorithm : Int
@[reducible] def z_api_ConnParams : api_ConnParams := ⟨(0 : Int), (0 : Int), z_api_Update, (0 : Int), (0 : Int), (0 : Int), (0 : Int)⟩
structure api_Window where
  Start : Int
  End : Int
structure api_Packet where
  LLID : Int
  Payload : List Int
structure api_Arq where
  SN : Int
  NESN : Int
  Queue : List api_Packet
  Open : Bool
  Empty : Bool
  Acked : Int
  Taken : Int
@[reducible] def z_api_Arq : api_Arq := ⟨(0 : Int), (0 : Int), [], false, false, (0 : Int), (0 : Int)⟩
structure api_Listening where
  Latency : Int
  Skipped : Int
  Full : Bool
@[reducible] def z_api_Listening : api_Listening := ⟨(0 : Int), (0 : Int), false⟩
structure api_Control where
  Kind : Int
  Update : api_Update
  Map : Int
  Instant : Int
  Reason : Int
  Rejected : Int
  Salt : Int
  Mark : Int
  Features : Int
  Version : Int
  Length : Int
@[reducible] def z_api_Control : api_Control := ⟨(0 : Int), z_api_Update, (0 : Int), (0 : Int), (0 : Int), (0 : Int), (0 : Int), (0 : Int), (0 : Int), (0 : Int), (0 : Int)⟩
structure api_Change where
  Kind : Int
  Instant : Int
  Update : api_Update
  Map : Int
@[reducible] def z_api_Change : api_Change := ⟨(0 : Int), (0 : Int), z_api_Update, (0 : Int)⟩
structure api_Procs where
  Role : Int
  Own : Int
  Since : Int
  Waiting : List api_Control
  Other : Int
  OtherTime : Int
  Pending : List api_Change
  Told : Bool
  Features : Int
  Common : Int
  Known : Bool
  VersionTx : Bool
  Version : Int
  Length : Int
  Limit : Int
  Salt : Int
  Peer : Int
  Mark : Int
  Crypt : Int
  Ended : Int
@[reducible] def z_api_Procs : api_Procs := ⟨(0 : Int), (0 : Int), (0 : Int), [], (0 : Int), (0 : Int), [], false, (0 : Int), (0 : Int), false, false, (0 : Int), (0 : Int), (0 : Int), (0 : Int), (0 : Int), (0 : Int), (0 : Int), (0 : Int)⟩
structure api_Tally where
  Good : Int
  Bad : Int
structure api_Session where
  Role : Int
  Key : Int
  Salt : Int
  TxOn : Bool
  RxOn : Bool
  Tx : Int
  Rx : Int
@[reducible] def z_api_Session : api_Session := ⟨(0 : Int), (0 : Int), (0 : Int), false, false, (0 : Int), (0 : Int)⟩
structure api_Link where
  Role : Int
  Params : api_ConnParams
  Clock : Int
  Event : Int
  Last : Int
  Anchor : Int
  Size : Int
  Sync : Int
  Heard : Int
  Begun : Bool
  Got : Bool
  Good : Bool
  Acked : Bool
  More : Bool
  Arq : api_Arq
  Listen : api_Listening
  Procs : api_Procs
  Session : api_Session
  Key : Int
  Tallies : List api_Tally
  Commands : List api_Control
  Reason : Int
  Seed : Int
@[reducible] def z_api_Link : api_Link := ⟨(0 : Int), z_api_ConnParams, (0 : Int), (0 : Int), (0 : Int), (0 : Int), (0 : Int), (0 : Int), (0 : Int), false, false, false, false, false, z_api_Arq, z_api_Listening, z_api_Procs, z_api_Session, (0 : Int), [], [], (0 : Int), (0 : Int)⟩
@[reducible] def Ty : Nat → Type
  | 4 => Bool
  | 174 => connect_span
  | 240 => List connect_span
  | 45 => Int
  | 24 => api_Update
  | 3 => Int
  | 25 => Int
  | 26 => Int
  | 28 => api_ConnParams
  | 52 => api_Window
  | 5 => Int
  | 68 => api_Packet
  | 33 => api_Arq
  | 35 => api_Listening
  | 156 => api_Control
  | 138 => api_Change
  | 39 => api_Procs
  | 99 => api_Tally
  | 42 => List api_Tally
  | 44 => api_Link
  | 46 => api_Link × Int
  | 29 => Int
  | 226 => List Int
  | 31 => List api_Packet
  | 36 => List api_Control
  | 62 => List Int
  | 37 => List api_Change
  | 30 => Int
  | 22 => Int
  | 104 => Int × Int
  | _ => Empty
def cd173 : Codec Ty connect_span := Codec.iso (fun x => (x.f_n, x.f_low, x.f_high, ())) (fun p => ⟨p.1, p.2.1, p.2.2.1⟩) (Codec.pair (Codec.int .i64 : Codec Ty Int) (Codec.pair (Codec.int .i64 : Codec Ty Int) (Codec.pair (Codec.int .i64 : Codec Ty Int) Codec.unit)))
def cd23 : Codec Ty api_Update := Codec.iso (fun x => (x.WinSize, x.WinOffset, x.Interval, x.Latency, x.Timeout, ())) (fun p => ⟨p.1, p.2.1, p.2.2.1, p.2.2.2.1, p.2.2.2.2.1⟩) (Codec.pair (Codec.int .i64 : Codec Ty Int) (Codec.pair (Codec.int .i64 : Codec Ty Int) (Codec.pair (Codec.int .i64 : Codec Ty Int) (Codec.pair (Codec.int .i64 : Codec Ty Int) (Codec.pair (Codec.int .i64 : Codec Ty Int) Codec.unit)))))
def cd27 : Codec Ty api_ConnParams := Codec.iso (fun x => (x.Access, x.Init, x.Update, x.Map, x.Hop, x.PPM, x.Algorithm, ())) (fun p => ⟨p.1, p.2.1, p.2.2.1, p.2.2.2.1, p.2.2.2.2.1, p.2.2.2.2.2.1, p.2.2.2.2.2.2.1⟩) (Codec.pair (Codec.int .u32 : Codec Ty Int) (Codec.pair (Codec.int .u32 : Codec Ty Int) (Codec.pair cd23 (Codec.pair (Codec.int .u64 : Codec Ty Int) (Codec.pair (Codec.int .i64 : Codec Ty Int) (Codec.pair (Codec.int .i64 : Codec Ty Int) (Codec.pair (Codec.int .i64 : Codec Ty Int) Codec.unit)))))))
def cd51 : Codec Ty api_Window := Codec.iso (fun x => (x.Start, x.End, ())) (fun p => ⟨p.1, p.2.1⟩) (Codec.pair (Codec.int .i64 : Codec Ty Int) (Codec.pair (Codec.int .i64 : Codec Ty Int) Codec.unit))
def cd67 : Codec Ty api_Packet := Codec.iso (fun x => (x.LLID, x.Payload, ())) (fun p => ⟨p.1, p.2.1⟩) (Codec.pair (Codec.int .i64 : Codec Ty Int) (Codec.pair (Codec.list 5 1 (fun (a : Int) => ((Codec.int .u8 : Codec Ty Int)).oneV a) : Codec Ty (List (Ty 5))) Codec.unit))
def cd32 : Codec Ty api_Arq := Codec.iso (fun x => (x.SN, x.NESN, x.Queue, x.Open, x.Empty, x.Acked, x.Taken, ())) (fun p => ⟨p.1, p.2.1, p.2.2.1, p.2.2.2.1, p.2.2.2.2.1, p.2.2.2.2.2.1, p.2.2.2.2.2.2.1⟩) (Codec.pair (Codec.int .i64 : Codec Ty Int) (Codec.pair (Codec.int .i64 : Codec Ty Int) (Codec.pair (Codec.list 68 2 (fun (a : api_Packet) => .agg (cd67.encV a)) : Codec Ty (List (Ty 68))) (Codec.pair (Codec.bool : Codec Ty Bool) (Codec.pair (Codec.bool : Codec Ty Bool) (Codec.pair (Codec.int .i64 : Codec Ty Int) (Codec.pair (Codec.int .i64 : Codec Ty Int) Codec.unit)))))))
def cd34 : Codec Ty api_Listening := Codec.iso (fun x => (x.Latency, x.Skipped, x.Full, ())) (fun p => ⟨p.1, p.2.1, p.2.2.1⟩) (Codec.pair (Codec.int .i64 : Codec Ty Int) (Codec.pair (Codec.int .i64 : Codec Ty Int) (Codec.pair (Codec.bool : Codec Ty Bool) Codec.unit)))
def cd155 : Codec Ty api_Control := Codec.iso (fun x => (x.Kind, x.Update, x.Map, x.Instant, x.Reason, x.Rejected, x.Salt, x.Mark, x.Features, x.Version, x.Length, ())) (fun p => ⟨p.1, p.2.1, p.2.2.1, p.2.2.2.1, p.2.2.2.2.1, p.2.2.2.2.2.1, p.2.2.2.2.2.2.1, p.2.2.2.2.2.2.2.1, p.2.2.2.2.2.2.2.2.1, p.2.2.2.2.2.2.2.2.2.1, p.2.2.2.2.2.2.2.2.2.2.1⟩) (Codec.pair (Codec.int .i64 : Codec Ty Int) (Codec.pair cd23 (Codec.pair (Codec.int .u64 : Codec Ty Int) (Codec.pair (Codec.int .u16 : Codec Ty Int) (Codec.pair (Codec.int .i64 : Codec Ty Int) (Codec.pair (Codec.int .i64 : Codec Ty Int) (Codec.pair (Codec.int .u64 : Codec Ty Int) (Codec.pair (Codec.int .u64 : Codec Ty Int) (Codec.pair (Codec.int .u64 : Codec Ty Int) (Codec.pair (Codec.int .i64 : Codec Ty Int) (Codec.pair (Codec.int .i64 : Codec Ty Int) Codec.unit)))))))))))
def cd137 : Codec Ty api_Change := Codec.iso (fun x => (x.Kind, x.Instant, x.Update, x.Map, ())) (fun p => ⟨p.1, p.2.1, p.2.2.1, p.2.2.2.1⟩) (Codec.pair (Codec.int .i64 : Codec Ty Int) (Codec.pair (Codec.int .u16 : Codec Ty Int) (Codec.pair cd23 (Codec.pair (Codec.int .u64 : Codec Ty Int) Codec.unit))))
def cd38 : Codec Ty api_Procs := Codec.iso (fun x => (x.Role, x.Own, x.Since, x.Waiting, x.Other, x.OtherTime, x.Pending, x.Told, x.Features, x.Common, x.Known, x.VersionTx, x.Version, x.Length, x.Limit, x.Salt, x.Peer, x.Mark, x.Crypt, x.Ended, ())) (fun p => ⟨p.1, p.2.1, p.2.2.1, p.2.2.2.1, p.2.2.2.2.1, p.2.2.2.2.2.1, p.2.2.2.2.2.2.1, p.2.2.2.2.2.2.2.1, p.2.2.2.2.2.2.2.2.1, p.2.2.2.2.2.2.2.2.2.1, p.2.2.2.2.2.2.2.2.2.2.1, p.2.2.2.2.2.2.2.2.2.2.2.1, p.2.2.2.2.2.2.2.2.2.2.2.2.1, p.2.2.2.2.2.2.2.2.2.2.2.2.2.1, p.2.2.2.2.2.2.2.2.2.2.2.2.2.2.1, p.2.2.2.2.2.2.2.2.2.2.2.2.2.2.2.1, p.2.2.2.2.2.2.2.2.2.2.2.2.2.2.2.2.1, p.2.2.2.2.2.2.2.2.2.2.2.2.2.2.2.2.2.1, p.2.2.2.2.2.2.2.2.2.2.2.2.2.2.2.2.2.2.1, p.2.2.2.2.2.2.2.2.2.2.2.2.2.2.2.2.2.2.2.1⟩) (Codec.pair (Codec.int .i64 : Codec Ty Int) (Codec.pair (Codec.int .i64 : Codec Ty Int) (Codec.pair (Codec.int .i64 : Codec Ty Int) (Codec.pair (Codec.list 156 15 (fun (a : api_Control) => .agg (cd155.encV a)) : Codec Ty (List (Ty 156))) (Codec.pair (Codec.int .i64 : Codec Ty Int) (Codec.pair (Codec.int .i64 : Codec Ty Int) (Codec.pair (Codec.list 138 8 (fun (a : api_Change) => .agg (cd137.encV a)) : Codec Ty (List (Ty 138))) (Codec.pair (Codec.bool : Codec Ty Bool) (Codec.pair (Codec.int .u64 : Codec Ty Int) (Codec.pair (Codec.int .u64 : Codec Ty Int) (Codec.pair (Codec.bool : Codec Ty Bool) (Codec.pair (Codec.bool : Codec Ty Bool) (Codec.pair (Codec.int .i64 : Codec Ty Int) (Codec.pair (Codec.int .i64 : Codec Ty Int) (Codec.pair (Codec.int .i64 : Codec Ty Int) (Codec.pair (Codec.int .u64 : Codec Ty Int) (Codec.pair (Codec.int .u64 : Codec Ty Int) (Codec.pair (Codec.int .u64 : Codec Ty Int) (Codec.pair (Codec.int .i64 : Codec Ty Int) (Codec.pair (Codec.int .i64 : Codec Ty Int) Codec.unit))))))))))))))))))))
def cd98 : Codec Ty api_Tally := Codec.iso (fun x => (x.Good, x.Bad, ())) (fun p => ⟨p.1, p.2.1⟩) (Codec.pair (Codec.int .i64 : Codec Ty Int) (Codec.pair (Codec.int .i64 : Codec Ty Int) Codec.unit))
def cd40 : Codec Ty api_Session := Codec.iso (fun x => (x.Role, x.Key, x.Salt, x.TxOn, x.RxOn, x.Tx, x.Rx, ())) (fun p => ⟨p.1, p.2.1, p.2.2.1, p.2.2.2.1, p.2.2.2.2.1, p.2.2.2.2.2.1, p.2.2.2.2.2.2.1⟩) (Codec.pair (Codec.int .i64 : Codec Ty Int) (Codec.pair (Codec.int .u64 : Codec Ty Int) (Codec.pair (Codec.int .u64 : Codec Ty Int) (Codec.pair (Codec.bool : Codec Ty Bool) (Codec.pair (Codec.bool : Codec Ty Bool) (Codec.pair (Codec.int .u64 : Codec Ty Int) (Codec.pair (Codec.int .u64 : Codec Ty Int) Codec.unit)))))))
def cd43 : Codec Ty api_Link := Codec.iso (fun x => (x.Role, x.Params, x.Clock, x.Event, x.Last, x.Anchor, x.Size, x.Sync, x.Heard, x.Begun, x.Got, x.Good, x.Acked, x.More, x.Arq, x.Listen, x.Procs, x.Session, x.Key, x.Tallies, x.Commands, x.Reason, x.Seed, ())) (fun p => ⟨p.1, p.2.1, p.2.2.1, p.2.2.2.1, p.2.2.2.2.1, p.2.2.2.2.2.1, p.2.2.2.2.2.2.1, p.2.2.2.2.2.2.2.1, p.2.2.2.2.2.2.2.2.1, p.2.2.2.2.2.2.2.2.2.1, p.2.2.2.2.2.2.2.2.2.2.1, p.2.2.2.2.2.2.2.2.2.2.2.1, p.2.2.2.2.2.2.2.2.2.2.2.2.1, p.2.2.2.2.2.2.2.2.2.2.2.2.2.1, p.2.2.2.2.2.2.2.2.2.2.2.2.2.2.1, p.2.2.2.2.2.2.2.2.2.2.2.2.2.2.2.1, p.2.2.2.2.2.2.2.2.2.2.2.2.2.2.2.2.1, p.2.2.2.2.2.2.2.2.2.2.2.2.2.2.2.2.2.1, p.2.2.2.2.2.2.2.2.2.2.2.2.2.2.2.2.2.2.1, p.2.2.2.2.2.2.2.2.2.2.2.2.2.2.2.2.2.2.2.1, p.2.2.2.2.2.2.2.2.2.2.2.2.2.2.2.2.2.2.2.2.1, p.2.2.2.2.2.2.2.2.2.2.2.2.2.2.2.2.2.2.2.2.2.1, p.2.2.2.2.2.2.2.2.2.2.2.2.2.2.2.2.2.2.2.2.2.2.1⟩) (Codec.pair (Codec.int .i64 : Codec Ty Int) (Codec.pair cd27 (Codec.pair (Codec.int .i64 : Codec Ty Int) (Codec.pair (Codec.int .u16 : Codec Ty Int) (Codec.pair (Codec.int .i64 : Codec Ty Int) (Codec.pair (Codec.int .i64 : Codec Ty Int) (Codec.pair (Codec.int .i64 : Codec Ty Int) (Codec.pair (Codec.int .i64 : Codec Ty Int) (Codec.pair (Codec.int .i64 : Codec Ty Int) (Codec.pair (Codec.bool : Codec Ty Bool) (Codec.pair (Codec.bool : Codec Ty Bool) (Codec.pair (Codec.bool : Codec Ty Bool) (Codec.pair (Codec.bool : Codec Ty Bool) (Codec.pair (Codec.bool : Codec Ty Bool) (Codec.pair cd32 (Codec.pair cd34 (Codec.pair cd38 (Codec.pair cd40 (Codec.pair (Codec.int .u64 : Codec Ty Int) (Codec.pair (Codec.list 99 2 (fun (a : api_Tally) => .agg (cd98.encV a)) : Codec Ty (List (Ty 99))) (Codec.pair (Codec.list 156 15 (fun (a : api_Control) => .agg (cd155.encV a)) : Codec Ty (List (Ty 156))) (Codec.pair (Codec.int .i64 : Codec Ty Int) (Codec.pair (Codec.int .u64 : Codec Ty Int) Codec.unit)))))))))))))))))))))))
@[reducible] def U : Univ where
  Ty := Ty
  esz := fun t => match t with
    | 4 => 1
    | 174 => 3
    | 240 => 1
    | 45 => 1
    | 24 => 5
    | 3 => 1
    | 25 => 1
    | 26 => 1
    | 28 => 11
    | 52 => 2
    | 5 => 1
    | 68 => 2
    | 33 => 7
    | 35 => 3
    | 156 => 15
    | 138 => 8
    | 39 => 20
    | 99 => 2
    | 42 => 1
    | 44 => 66
    | 46 => 1
    | 29 => 1
    | 226 => 1
    | 31 => 1
    | 36 => 1
    | 62 => 1
    | 37 => 1
    | 30 => 1
    | 22 => 1
    | 104 => 1
    | _ => 0
  enc := fun t => match t with
    | 4 => fun (a : Bool) => ((Codec.bool : Codec Ty Bool)).oneV a
    | 174 => fun (a : connect_span) => .agg (cd173.encV a)
    | 240 => fun (a : List connect_span) => ((Codec.list 174 3 (fun (a : connect_span) => .agg (cd173.encV a)) : Codec Ty (List (Ty 174)))).oneV a
    | 45 => fun (a : Int) => ((Codec.int .i64 : Codec Ty Int)).oneV a
    | 24 => fun (a : api_Update) => .agg (cd23.encV a)
    | 3 => fun (a : Int) => ((Codec.int .i64 : Codec Ty Int)).oneV a
    | 25 => fun (a : Int) => ((Codec.int .u64 : Codec Ty Int)).oneV a
    | 26 => fun (a : Int) => ((Codec.int .u64 : Codec Ty Int)).oneV a
    | 28 => fun (a : api_ConnParams) => .agg (cd27.encV a)
    | 52 => fun (a : api_Window) => .agg (cd51.encV a)
    | 5 => fun (a : Int) => ((Codec.int .u8 : Codec Ty Int)).oneV a
    | 68 => fun (a : api_Packet) => .agg (cd67.encV a)
    | 33 => fun (a : api_Arq) => .agg (cd32.encV a)
    | 35 => fun (a : api_Listening) => .agg (cd34.encV a)
    | 156 => fun (a : api_Control) => .agg (cd155.encV a)
    | 138 => fun (a : api_Change) => .agg (cd137.encV a)
    | 39 => fun (a : api_Procs) => .agg (cd38.encV a)
    | 99 => fun (a : api_Tally) => .agg (cd98.encV a)
    | 42 => fun (a : List api_Tally) => ((Codec.list 99 2 (fun (a : api_Tally) => .agg (cd98.encV a)) : Codec Ty (List (Ty 99)))).oneV a
    | 44 => fun (a : api_Link) => .agg (cd43.encV a)
    | 46 => fun (a : api_Link × Int) => .tup [(.agg (cd43.encV a.1)), (((Codec.int .i64 : Codec Ty Int)).oneV a.2)]
    | 29 => fun (a : Int) => ((Codec.int .u64 : Codec Ty Int)).oneV a
    | 226 => fun (a : List Int) => ((Codec.list 3 1 (fun (a : Int) => ((Codec.int .i64 : Codec Ty Int)).oneV a) : Codec Ty (List (Ty 3)))).oneV a
    | 31 => fun (a : List api_Packet) => ((Codec.list 68 2 (fun (a : api_Packet) => .agg (cd67.encV a)) : Codec Ty (List (Ty 68)))).oneV a
    | 36 => fun (a : List api_Control) => ((Codec.list 156 15 (fun (a : api_Control) => .agg (cd155.encV a)) : Codec Ty (List (Ty 156)))).oneV a
    | 62 => fun (a : List Int) => ((Codec.list 5 1 (fun (a : Int) => ((Codec.int .u8 : Codec Ty Int)).oneV a) : Codec Ty (List (Ty 5)))).oneV a
    | 37 => fun (a : List api_Change) => ((Codec.list 138 8 (fun (a : api_Change) => .agg (cd137.encV a)) : Codec Ty (List (Ty 138)))).oneV a
    | 30 => fun (a : Int) => ((Codec.int .u16 : Codec Ty Int)).oneV a
    | 22 => fun (a : Int) => ((Codec.int .u32 : Codec Ty Int)).oneV a
    | 104 => fun (a : Int × Int) => .tup [(((Codec.int .i64 : Codec Ty Int)).oneV a.1), (((Codec.int .i64 : Codec Ty Int)).oneV a.2)]
    | _ => fun _ => .no
  encS := fun t => match t with
    | 4 => fun (a : Bool) => ((Codec.bool : Codec Ty Bool)).oneS a
    | 174 => fun (a : connect_span) => .agg (cd173.encS a)
    | 240 => fun (a : List connect_span) => ((Codec.list 174 3 (fun (a : connect_span) => .agg (cd173.encV a)) : Codec Ty (List (Ty 174)))).oneS a
    | 45 => fun (a : Int) => ((Codec.int .i64 : Codec Ty Int)).oneS a
    | 24 => fun (a : api_Update) => .agg (cd23.encS a)
    | 3 => fun (a : Int) => ((Codec.int .i64 : Codec Ty Int)).oneS a
    | 25 => fun (a : Int) => ((Codec.int .u64 : Codec Ty Int)).oneS a
    | 26 => fun (a : Int) => ((Codec.int .u64 : Codec Ty Int)).oneS a
    | 28 => fun (a : api_ConnParams) => .agg (cd27.encS a)
    | 52 => fun (a : api_Window) => .agg (cd51.encS a)
    | 5 => fun (a : Int) => ((Codec.int .u8 : Codec Ty Int)).oneS a
    | 68 => fun (a : api_Packet) => .agg (cd67.encS a)
    | 33 => fun (a : api_Arq) => .agg (cd32.encS a)
    | 35 => fun (a : api_Listening) => .agg (cd34.encS a)
    | 156 => fun (a : api_Control) => .agg (cd155.encS a)
    | 138 => fun (a : api_Change) => .agg (cd137.encS a)
    | 39 => fun (a : api_Procs) => .agg (cd38.encS a)
    | 99 => fun (a : api_Tally) => .agg (cd98.encS a)
    | 42 => fun (a : List api_Tally) => ((Codec.list 99 2 (fun (a : api_Tally) => .agg (cd98.encV a)) : Codec Ty (List (Ty 99)))).oneS a
    | 44 => fun (a : api_Link) => .agg (cd43.encS a)
    | 46 => fun (a : api_Link × Int) => .tup [(.agg (cd43.encS a.1)), (((Codec.int .i64 : Codec Ty Int)).oneS a.2)]
    | 29 => fun (a : Int) => ((Codec.int .u64 : Codec Ty Int)).oneS a
    | 226 => fun (a : List Int) => ((Codec.list 3 1 (fun (a : Int) => ((Codec.int .i64 : Codec Ty Int)).oneV a) : Codec Ty (List (Ty 3)))).oneS a
    | 31 => fun (a : List api_Packet) => ((Codec.list 68 2 (fun (a : api_Packet) => .agg (cd67.encV a)) : Codec Ty (List (Ty 68)))).oneS a
    | 36 => fun (a : List api_Control) => ((Codec.list 156 15 (fun (a : api_Control) => .agg (cd155.encV a)) : Codec Ty (List (Ty 156)))).oneS a
    | 62 => fun (a : List Int) => ((Codec.list 5 1 (fun (a : Int) => ((Codec.int .u8 : Codec Ty Int)).oneV a) : Codec Ty (List (Ty 5)))).oneS a
    | 37 => fun (a : List api_Change) => ((Codec.list 138 8 (fun (a : api_Change) => .agg (cd137.encV a)) : Codec Ty (List (Ty 138)))).oneS a
    | 30 => fun (a : Int) => ((Codec.int .u16 : Codec Ty Int)).oneS a
    | 22 => fun (a : Int) => ((Codec.int .u32 : Codec Ty Int)).oneS a
    | 104 => fun (a : Int × Int) => .tup [(((Codec.int .i64 : Codec Ty Int)).oneS a.1), (((Codec.int .i64 : Codec Ty Int)).oneS a.2)]
    | _ => fun _ => .no
  decS := fun t => match t with
    | 4 => fun v => ((Codec.bool : Codec Ty Bool)).one v
    | 174 => fun v => cd173.agg v
    | 240 => fun v => ((Codec.list 174 3 (fun (a : connect_span) => .agg (cd173.encV a)) : Codec Ty (List (Ty 174)))).one v
    | 45 => fun v => ((Codec.int .i64 : Codec Ty Int)).one v
    | 24 => fun v => cd23.agg v
    | 3 => fun v => ((Codec.int .i64 : Codec Ty Int)).one v
    | 25 => fun v => ((Codec.int .u64 : Codec Ty Int)).one v
    | 26 => fun v => ((Codec.int .u64 : Codec Ty Int)).one v
    | 28 => fun v => cd27.agg v
    | 52 => fun v => cd51.agg v
    | 5 => fun v => ((Codec.int .u8 : Codec Ty Int)).one v
    | 68 => fun v => cd67.agg v
    | 33 => fun v => cd32.agg v
    | 35 => fun v => cd34.agg v
    | 156 => fun v => cd155.agg v
    | 138 => fun v => cd137.agg v
    | 39 => fun v => cd38.agg v
    | 99 => fun v => cd98.agg v
    | 42 => fun v => ((Codec.list 99 2 (fun (a : api_Tally) => .agg (cd98.encV a)) : Codec Ty (List (Ty 99)))).one v
    | 44 => fun v => cd43.agg v
    | 46 => fun _ => none
    | 29 => fun v => ((Codec.int .u64 : Codec Ty Int)).one v
    | 226 => fun v => ((Codec.list 3 1 (fun (a : Int) => ((Codec.int .i64 : Codec Ty Int)).oneV a) : Codec Ty (List (Ty 3)))).one v
    | 31 => fun v => ((Codec.list 68 2 (fun (a : api_Packet) => .agg (cd67.encV a)) : Codec Ty (List (Ty 68)))).one v
    | 36 => fun v => ((Codec.list 156 15 (fun (a : api_Control) => .agg (cd155.encV a)) : Codec Ty (List (Ty 156)))).one v
    | 62 => fun v => ((Codec.list 5 1 (fun (a : Int) => ((Codec.int .u8 : Codec Ty Int)).oneV a) : Codec Ty (List (Ty 5)))).one v
    | 37 => fun v => ((Codec.list 138 8 (fun (a : api_Change) => .agg (cd137.encV a)) : Codec Ty (List (Ty 138)))).one v
    | 30 => fun v => ((Codec.int .u16 : Codec Ty Int)).one v
    | 22 => fun v => ((Codec.int .u32 : Codec Ty Int)).one v
    | 104 => fun _ => none
    | _ => fun _ => none
  keys := [4, 174, 240, 45, 24, 3, 25, 26, 28, 52, 5, 68, 33, 35, 156, 138, 39, 99, 42, 44, 46, 29, 226, 31, 36, 62, 37, 30, 22, 104]
theorem cdok173 : CodecOK U cd173 [0, 0, 0] := CodecOK.iso ((CodecOK.int _).pair ((CodecOK.int _).pair ((CodecOK.int _).pair CodecOK.unit))) (fun _ => rfl) (fun _ => rfl)
theorem cdok23 : CodecOK U cd23 [0, 0, 0, 0, 0] := CodecOK.iso ((CodecOK.int _).pair ((CodecOK.int _).pair ((CodecOK.int _).pair ((CodecOK.int _).pair ((CodecOK.int _).pair CodecOK.unit))))) (fun _ => rfl) (fun _ => rfl)
theorem cdok27 : CodecOK U cd27 [0, 0, 0, 0, 0, 0, 0, 0, 0, 0, 0] := CodecOK.iso ((CodecOK.int _).pair ((CodecOK.int _).pair ((cdok23).pair ((CodecOK.int _).pair ((CodecOK.int _).pair ((CodecOK.int _).pair ((CodecOK.int _).pair CodecOK.unit))))))) (fun _ => rfl) (fun _ => rfl)
theorem cdok51 : CodecOK U cd51 [0, 0] := CodecOK.iso ((CodecOK.int _).pair ((CodecOK.int _).pair CodecOK.unit)) (fun _ => rfl) (fun _ => rfl)
theorem cdok67 : CodecOK U cd67 [0, 1] := CodecOK.iso ((CodecOK.int _).pair ((CodecOK.list (U := U) (t := 5) (n := 1) (e := fun (a : Int) => ((Codec.int .u8 : Codec Ty Int)).oneV a) (fun _ => rfl) rfl (fun a => (CodecOK.int _ : CodecOK U (Codec.int .u8 : Codec Ty Int) _).oneNr a) (fun a b h => (CodecOK.int _ : CodecOK U (Codec.int .u8 : Codec Ty Int) _).oneInj h)).pair CodecOK.unit)) (fun _ => rfl) (fun _ => rfl)
theorem cdok32 : CodecOK U cd32 [0, 0, 2, 0, 0, 0, 0] := CodecOK.iso ((CodecOK.int _).pair ((CodecOK.int _).pair ((CodecOK.list (U := U) (t := 68) (n := 2) (e := fun (a : api_Packet) => .agg (cd67.encV a)) (fun _ => rfl) rfl (fun a => cdok67.nr a) (fun a b h => cdok67.inj _ _ (by injection h))).pair ((CodecOK.bool).pair ((CodecOK.bool).pair ((CodecOK.int _).pair ((CodecOK.int _).pair CodecOK.unit))))))) (fun _ => rfl) (fun _ => rfl)
theorem cdok34 : CodecOK U cd34 [0, 0, 0] := CodecOK.iso ((CodecOK.int _).pair ((CodecOK.int _).pair ((CodecOK.bool).pair CodecOK.unit))) (fun _ => rfl) (fun _ => rfl)
theorem cdok155 : CodecOK U cd155 [0, 0, 0, 0, 0, 0, 0, 0, 0, 0, 0, 0, 0, 0, 0] := CodecOK.iso ((CodecOK.int _).pair ((cdok23).pair ((CodecOK.int _).pair ((CodecOK.int _).pair ((CodecOK.int _).pair ((CodecOK.int _).pair ((CodecOK.int _).pair ((CodecOK.int _).pair ((CodecOK.int _).pair ((CodecOK.int _).pair ((CodecOK.int _).pair CodecOK.unit))))))))))) (fun _ => rfl) (fun _ => rfl)
theorem cdok137 : CodecOK U cd137 [0, 0, 0, 0, 0, 0, 0, 0] := CodecOK.iso ((CodecOK.int _).pair ((CodecOK.int _).pair ((cdok23).pair ((CodecOK.int _).pair CodecOK.unit)))) (fun _ => rfl) (fun _ => rfl)
theorem cdok38 : CodecOK U cd38 [0, 0, 0, 15, 0, 0, 8, 0, 0, 0, 0, 0, 0, 0, 0, 0, 0, 0, 0, 0] := CodecOK.iso ((CodecOK.int _).pair ((CodecOK.int _).pair ((CodecOK.int _).pair ((CodecOK.list (U := U) (t := 156) (n := 15) (e := fun (a : api_Control) => .agg (cd155.encV a)) (fun _ => rfl) rfl (fun a => cdok155.nr a) (fun a b h => cdok155.inj _ _ (by injection h))).pair ((CodecOK.int _).pair ((CodecOK.int _).pair ((CodecOK.list (U := U) (t := 138) (n := 8) (e := fun (a : api_Change) => .agg (cd137.encV a)) (fun _ => rfl) rfl (fun a => cdok137.nr a) (fun a b h => cdok137.inj _ _ (by injection h))).pair ((CodecOK.bool).pair ((CodecOK.int _).pair ((CodecOK.int _).pair ((CodecOK.bool).pair ((CodecOK.bool).pair ((CodecOK.int _).pair ((CodecOK.int _).pair ((CodecOK.int _).pair ((CodecOK.int _).pair ((CodecOK.int _).pair ((CodecOK.int _).pair ((CodecOK.int _).pair ((CodecOK.int _).pair CodecOK.unit)))))))))))))))))))) (fun _ => rfl) (fun _ => rfl)
theorem cdok98 : CodecOK U cd98 [0, 0] := CodecOK.iso ((CodecOK.int _).pair ((CodecOK.int _).pair CodecOK.unit)) (fun _ => rfl) (fun _ => rfl)
theorem cdok40 : CodecOK U cd40 [0, 0, 0, 0, 0, 0, 0] := CodecOK.iso ((CodecOK.int _).pair ((CodecOK.int _).pair ((CodecOK.int _).pair ((CodecOK.bool).pair ((CodecOK.bool).pair ((CodecOK.int _).pair ((CodecOK.int _).pair CodecOK.unit))))))) (fun _ => rfl) (fun _ => rfl)
theorem cdok43 : CodecOK U cd43 [0, 0, 0, 0, 0, 0, 0, 0, 0, 0, 0, 0, 0, 0, 0, 0, 0, 0, 0, 0, 0, 0, 0, 0, 0, 0, 2, 0, 0, 0, 0, 0, 0, 0, 0, 0, 0, 15, 0, 0, 8, 0, 0, 0, 0, 0, 0, 0, 0, 0, 0, 0, 0, 0, 0, 0, 0, 0, 0, 0, 0, 0, 2, 15, 0, 0] := CodecOK.iso ((CodecOK.int _).pair ((cdok27).pair ((CodecOK.int _).pair ((CodecOK.int _).pair ((CodecOK.int _).pair ((CodecOK.int _).pair ((CodecOK.int _).pair ((CodecOK.int _).pair ((CodecOK.int _).pair ((CodecOK.bool).pair ((CodecOK.bool).pair ((CodecOK.bool).pair ((CodecOK.bool).pair ((CodecOK.bool).pair ((cdok32).pair ((cdok34).pair ((cdok38).pair ((cdok40).pair ((CodecOK.int _).pair ((CodecOK.list (U := U) (t := 99) (n := 2) (e := fun (a : api_Tally) => .agg (cd98.encV a)) (fun _ => rfl) rfl (fun a => cdok98.nr a) (fun a b h => cdok98.inj _ _ (by injection h))).pair ((CodecOK.list (U := U) (t := 156) (n := 15) (e := fun (a : api_Control) => .agg (cd155.encV a)) (fun _ => rfl) rfl (fun a => cdok155.nr a) (fun a b h => cdok155.inj _ _ (by injection h))).pair ((CodecOK.int _).pair ((CodecOK.int _).pair CodecOK.unit))))))))))))))))))))))) (fun _ => rfl) (fun _ => rfl)
theorem rows4 : rowsOf Tryz.prog 4 = [0] := by kernel_rfl
theorem tyok4 {E : Env} (hE : E.rows = rowsOf Tryz.prog) : TyOK U E 4 :=
  have c : CodecOK U (Codec.bool : Codec Ty Bool) [0] := CodecOK.bool
  ⟨fun a => c.oneEnc a, fun v a h => by rw [hE, rows4]; exact c.one h (na_bool h), fun a => by first | rfl | exact (congrArg (fun x => [x]) (c.oneEnc a).symm), fun a => c.oneNr a, fun a b h => c.oneInj h⟩
theorem rows174 : rowsOf Tryz.prog 174 = [0, 0, 0] := by kernel_rfl
theorem tyok174 {E : Env} (hE : E.rows = rowsOf Tryz.prog) : TyOK U E 174 := ⟨fun a => congrArg V.agg (cdok173.enc a), fun v a h => by rw [hE, rows174]; exact cdok173.agg h, fun a => (cdok173.enc a).symm, fun a => cdok173.nr a, fun a b h => cdok173.inj _ _ (by injection h)⟩
theorem rows240 : rowsOf Tryz.prog 240 = [3] := by kernel_rfl
theorem tyok240 {E : Env} (hE : E.rows = rowsOf Tryz.prog) : TyOK U E 240 :=
  have c : CodecOK U (Codec.list 174 3 (fun (a : connect_span) => .agg (cd173.encV a)) : Codec Ty (List (Ty 174))) [3] := CodecOK.list (U := U) (t := 174) (n := 3) (e := fun (a : connect_span) => .agg (cd173.encV a)) (fun _ => rfl) rfl (fun a => cdok173.nr a) (fun a b h => cdok173.inj _ _ (by injection h))
  ⟨fun a => c.oneEnc a, fun v a h => by rw [hE, rows240]; exact c.one h (na_list (U := U) (t := 174) (n := 3) (e := fun (a : connect_span) => .agg (cd173.encV a)) h), fun a => by first | rfl | exact (congrArg (fun x => [x]) (c.oneEnc a).symm), fun a => c.oneNr a, fun a b h => c.oneInj h⟩
theorem rows45 : rowsOf Tryz.prog 45 = [0] := by kernel_rfl
theorem tyok45 {E : Env} (hE : E.rows = rowsOf Tryz.prog) : TyOK U E 45 :=
  have c : CodecOK U (Codec.int .i64 : Codec Ty Int) [0] := CodecOK.int _
  ⟨fun a => c.oneEnc a, fun v a h => by rw [hE, rows45]; exact c.one h (na_int h), fun a => by first | rfl | exact (congrArg (fun x => [x]) (c.oneEnc a).symm), fun a => c.oneNr a, fun a b h => c.oneInj h⟩
theorem rows24 : rowsOf Tryz.prog 24 = [0, 0, 0, 0, 0] := by kernel_rfl
theorem tyok24 {E : Env} (hE : E.rows = rowsOf Tryz.prog) : TyOK U E 24 := ⟨fun a => congrArg V.agg (cdok23.enc a), fun v a h => by rw [hE, rows24]; exact cdok23.agg h, fun a => (cdok23.enc a).symm, fun a => cdok23.nr a, fun a b h => cdok23.inj _ _ (by injection h)⟩
theorem rows3 : rowsOf Tryz.prog 3 = [0] := by kernel_rfl
theorem tyok3 {E : Env} (hE : E.rows = rowsOf Tryz.prog) : TyOK U E 3 :=
  have c : CodecOK U (Codec.int .i64 : Codec Ty Int) [0] := CodecOK.int _
  ⟨fun a => c.oneEnc a, fun v a h => by rw [hE, rows3]; exact c.one h (na_int h), fun a => by first | rfl | exact (congrArg (fun x => [x]) (c.oneEnc a).symm), fun a => c.oneNr a, fun a b h => c.oneInj h⟩
theorem rows25 : rowsOf Tryz.prog 25 = [0] := by kernel_rfl
theorem tyok25 {E : Env} (hE : E.rows = rowsOf Tryz.prog) : TyOK U E 25 :=
  have c : CodecOK U (Codec.int .u64 : Codec Ty Int) [0] := CodecOK.int _
  ⟨fun a => c.oneEnc a, fun v a h => by rw [hE, rows25]; exact c.one h (na_int h), fun a => by first | rfl | exact (congrArg (fun x => [x]) (c.oneEnc a).symm), fun a => c.oneNr a, fun a b h => c.oneInj h⟩
theorem rows26 : rowsOf Tryz.prog 26 = [0] := by kernel_rfl
theorem tyok26 {E : Env} (hE : E.rows = rowsOf Tryz.prog) : TyOK U E 26 :=
  have c : CodecOK U (Codec.int .u64 : Codec Ty Int) [0] := CodecOK.int _
  ⟨fun a => c.oneEnc a, fun v a h => by rw [hE, rows26]; exact c.one h (na_int h), fun a => by first | rfl | exact (congrArg (fun x => [x]) (c.oneEnc a).symm), fun a => c.oneNr a, fun a b h => c.oneInj h⟩
theorem rows28 : rowsOf Tryz.prog 28 = [0, 0, 0, 0, 0, 0, 0, 0, 0, 0, 0] := by kernel_rfl
theorem tyok28 {E : Env} (hE : E.rows = rowsOf Tryz.prog) : TyOK U E 28 := ⟨fun a => congrArg V.agg (cdok27.enc a), fun v a h => by rw [hE, rows28]; exact cdok27.agg h, fun a => (cdok27.enc a).symm, fun a => cdok27.nr a, fun a b h => cdok27.inj _ _ (by injection h)⟩
theorem rows52 : rowsOf Tryz.prog 52 = [0, 0] := by kernel_rfl
theorem tyok52 {E : Env} (hE : E.rows = rowsOf Tryz.prog) : TyOK U E 52 := ⟨fun a => congrArg V.agg (cdok51.enc a), fun v a h => by rw [hE, rows52]; exact cdok51.agg h, fun a => (cdok51.enc a).symm, fun a => cdok51.nr a, fun a b h => cdok51.inj _ _ (by injection h)⟩
theorem rows5 : rowsOf Tryz.prog 5 = [0] := by kernel_rfl
theorem tyok5 {E : Env} (hE : E.rows = rowsOf Tryz.prog) : TyOK U E 5 :=
  have c : CodecOK U (Codec.int .u8 : Codec Ty Int) [0] := CodecOK.int _
  ⟨fun a => c.oneEnc a, fun v a h => by rw [hE, rows5]; exact c.one h (na_int h), fun a => by first | rfl | exact (congrArg (fun x => [x]) (c.oneEnc a).symm), fun a => c.oneNr a, fun a b h => c.oneInj h⟩
theorem rows68 : rowsOf Tryz.prog 68 = [0, 1] := by kernel_rfl
theorem tyok68 {E : Env} (hE : E.rows = rowsOf Tryz.prog) : TyOK U E 68 := ⟨fun a => congrArg V.agg (cdok67.enc a), fun v a h => by rw [hE, rows68]; exact cdok67.agg h, fun a => (cdok67.enc a).symm, fun a => cdok67.nr a, fun a b h => cdok67.inj _ _ (by injection h)⟩
theorem rows33 : rowsOf Tryz.prog 33 = [0, 0, 2, 0, 0, 0, 0] := by kernel_rfl
theorem tyok33 {E : Env} (hE : E.rows = rowsOf Tryz.prog) : TyOK U E 33 := ⟨fun a => congrArg V.agg (cdok32.enc a), fun v a h => by rw [hE, rows33]; exact cdok32.agg h, fun a => (cdok32.enc a).symm, fun a => cdok32.nr a, fun a b h => cdok32.inj _ _ (by injection h)⟩
theorem rows35 : rowsOf Tryz.prog 35 = [0, 0, 0] := by kernel_rfl
theorem tyok35 {E : Env} (hE : E.rows = rowsOf Tryz.prog) : TyOK U E 35 := ⟨fun a => congrArg V.agg (cdok34.enc a), fun v a h => by rw [hE, rows35]; exact cdok34.agg h, fun a => (cdok34.enc a).symm, fun a => cdok34.nr a, fun a b h => cdok34.inj _ _ (by injection h)⟩
theorem rows156 : rowsOf Tryz.prog 156 = [0, 0, 0, 0, 0, 0, 0, 0, 0, 0, 0, 0, 0, 0, 0] := by kernel_rfl
theorem tyok156 {E : Env} (hE : E.rows = rowsOf Tryz.prog) : TyOK U E 156 := ⟨fun a => congrArg V.agg (cdok155.enc a), fun v a h => by rw [hE, rows156]; exact cdok155.agg h, fun a => (cdok155.enc a).symm, fun a => cdok155.nr a, fun a b h => cdok155.inj _ _ (by injection h)⟩
theorem rows138 : rowsOf Tryz.prog 138 = [0, 0, 0, 0, 0, 0, 0, 0] := by kernel_rfl
theorem tyok138 {E : Env} (hE : E.rows = rowsOf Tryz.prog) : TyOK U E 138 := ⟨fun a => congrArg V.agg (cdok137.enc a), fun v a h => by rw [hE, rows138]; exact cdok137.agg h, fun a => (cdok137.enc a).symm, fun a => cdok137.nr a, fun a b h => cdok137.inj _ _ (by injection h)⟩
theorem rows39 : rowsOf Tryz.prog 39 = [0, 0, 0, 15, 0, 0, 8, 0, 0, 0, 0, 0, 0, 0, 0, 0, 0, 0, 0, 0] := by kernel_rfl
theorem tyok39 {E : Env} (hE : E.rows = rowsOf Tryz.prog) : TyOK U E 39 := ⟨fun a => congrArg V.agg (cdok38.enc a), fun v a h => by rw [hE, rows39]; exact cdok38.agg h, fun a => (cdok38.enc a).symm, fun a => cdok38.nr a, fun a b h => cdok38.inj _ _ (by injection h)⟩
theorem rows99 : rowsOf Tryz.prog 99 = [0, 0] := by kernel_rfl
theorem tyok99 {E : Env} (hE : E.rows = rowsOf Tryz.prog) : TyOK U E 99 := ⟨fun a => congrArg V.agg (cdok98.enc a), fun v a h => by rw [hE, rows99]; exact cdok98.agg h, fun a => (cdok98.enc a).symm, fun a => cdok98.nr a, fun a b h => cdok98.inj _ _ (by injection h)⟩
theorem rows42 : rowsOf Tryz.prog 42 = [2] := by kernel_rfl
theorem tyok42 {E : Env} (hE : E.rows = rowsOf Tryz.prog) : TyOK U E 42 :=
  have c : CodecOK U (Codec.list 99 2 (fun (a : api_Tally) => .agg (cd98.encV a)) : Codec Ty (List (Ty 99))) [2] := CodecOK.list (U := U) (t := 99) (n := 2) (e := fun (a : api_Tally) => .agg (cd98.encV a)) (fun _ => rfl) rfl (fun a => cdok98.nr a) (fun a b h => cdok98.inj _ _ (by injection h))
  ⟨fun a => c.oneEnc a, fun v a h => by rw [hE, rows42]; exact c.one h (na_list (U := U) (t := 99) (n := 2) (e := fun (a : api_Tally) => .agg (cd98.encV a)) h), fun a => by first | rfl | exact (congrArg (fun x => [x]) (c.oneEnc a).symm), fun a => c.oneNr a, fun a b h => c.oneInj h⟩
theorem rows44 : rowsOf Tryz.prog 44 = [0, 0, 0, 0, 0, 0, 0, 0, 0, 0, 0, 0, 0, 0, 0, 0, 0, 0, 0, 0, 0, 0, 0, 0, 0, 0, 2, 0, 0, 0, 0, 0, 0, 0, 0, 0, 0, 15, 0, 0, 8, 0, 0, 0, 0, 0, 0, 0, 0, 0, 0, 0, 0, 0, 0, 0, 0, 0, 0, 0, 0, 0, 2, 15, 0, 0] := by kernel_rfl
theorem tyok44 {E : Env} (hE : E.rows = rowsOf Tryz.prog) : TyOK U E 44 := ⟨fun a => congrArg V.agg (cdok43.enc a), fun v a h => by rw [hE, rows44]; exact cdok43.agg h, fun a => (cdok43.enc a).symm, fun a => cdok43.nr a, fun a b h => cdok43.inj _ _ (by injection h)⟩
theorem tyok46 {E : Env} (hE : E.rows = rowsOf Tryz.prog) : TyOK U E 46 := by
  refine ⟨fun a => ?_, fun v a h => (by cases h), fun a => ?_, fun a => ?_, fun a b h => ?_⟩
  · first | rfl | skip
    all_goals show V.tup _ = V.tup _
    all_goals congr 1
    all_goals simp only [toVs, show toV U (.agg (cd43.encS a.1)) = (.agg (cd43.encV a.1)) from (tyok44 hE).encS a.1, show toV U (((Codec.int .i64 : Codec Ty Int)).oneS a.2) = (((Codec.int .i64 : Codec Ty Int)).oneV a.2) from (tyok45 hE).encS a.2]
  · first | rfl | skip
    all_goals show [V.tup _] = [V.tup _]
    all_goals congr 2
    all_goals simp only [toVs, show toV U (.agg (cd43.encS a.1)) = (.agg (cd43.encV a.1)) from (tyok44 hE).encS a.1, show toV U (((Codec.int .i64 : Codec Ty Int)).oneS a.2) = (((Codec.int .i64 : Codec Ty Int)).oneV a.2) from (tyok45 hE).encS a.2]
  · show noRefs [.agg (cd43.encV a.1), ((Codec.int .i64 : Codec Ty Int)).oneV a.2] = true
    simp only [noRefs, show noRef (.agg (cd43.encV a.1)) = true from (tyok44 hE).nr a.1, show noRef (((Codec.int .i64 : Codec Ty Int)).oneV a.2) = true from (tyok45 hE).nr a.2, Bool.and_self]
  · have h : V.tup [.agg (cd43.encV a.1), ((Codec.int .i64 : Codec Ty Int)).oneV a.2] = V.tup [.agg (cd43.encV b.1), ((Codec.int .i64 : Codec Ty Int)).oneV b.2] := h
    simp only [V.tup.injEq, List.cons.injEq, and_true] at h
    exact Prod.ext ((tyok44 hE).inj _ _ h.1) ((tyok45 hE).inj _ _ h.2)
theorem rows29 : rowsOf Tryz.prog 29 = [0] := by kernel_rfl
theorem tyok29 {E : Env} (hE : E.rows = rowsOf Tryz.prog) : TyOK U E 29 :=
  have c : CodecOK U (Codec.int .u64 : Codec Ty Int) [0] := CodecOK.int _
  ⟨fun a => c.oneEnc a, fun v a h => by rw [hE, rows29]; exact c.one h (na_int h), fun a => by first | rfl | exact (congrArg (fun x => [x]) (c.oneEnc a).symm), fun a => c.oneNr a, fun a b h => c.oneInj h⟩
theorem rows226 : rowsOf Tryz.prog 226 = [1] := by kernel_rfl
theorem tyok226 {E : Env} (hE : E.rows = rowsOf Tryz.prog) : TyOK U E 226 :=
  have c : CodecOK U (Codec.list 3 1 (fun (a : Int) => ((Codec.int .i64 : Codec Ty Int)).oneV a) : Codec Ty (List (Ty 3))) [1] := CodecOK.list (U := U) (t := 3) (n := 1) (e := fun (a : Int) => ((Codec.int .i64 : Codec Ty Int)).oneV a) (fun _ => rfl) rfl (fun a => (CodecOK.int _ : CodecOK U (Codec.int .i64 : Codec Ty Int) _).oneNr a) (fun a b h => (CodecOK.int _ : CodecOK U (Codec.int .i64 : Codec Ty Int) _).oneInj h)
  ⟨fun a => c.oneEnc a, fun v a h => by rw [hE, rows226]; exact c.one h (na_list (U := U) (t := 3) (n := 1) (e := fun (a : Int) => ((Codec.int .i64 : Codec Ty Int)).oneV a) h), fun a => by first | rfl | exact (congrArg (fun x => [x]) (c.oneEnc a).symm), fun a => c.oneNr a, fun a b h => c.oneInj h⟩
theorem rows31 : rowsOf Tryz.prog 31 = [2] := by kernel_rfl
theorem tyok31 {E : Env} (hE : E.rows = rowsOf Tryz.prog) : TyOK U E 31 :=
  have c : CodecOK U (Codec.list 68 2 (fun (a : api_Packet) => .agg (cd67.encV a)) : Codec Ty (List (Ty 68))) [2] := CodecOK.list (U := U) (t := 68) (n := 2) (e := fun (a : api_Packet) => .agg (cd67.encV a)) (fun _ => rfl) rfl (fun a => cdok67.nr a) (fun a b h => cdok67.inj _ _ (by injection h))
  ⟨fun a => c.oneEnc a, fun v a h => by rw [hE, rows31]; exact c.one h (na_list (U := U) (t := 68) (n := 2) (e := fun (a : api_Packet) => .agg (cd67.encV a)) h), fun a => by first | rfl | exact (congrArg (fun x => [x]) (c.oneEnc a).symm), fun a => c.oneNr a, fun a b h => c.oneInj h⟩
theorem rows36 : rowsOf Tryz.prog 36 = [15] := by kernel_rfl
theorem tyok36 {E : Env} (hE : E.rows = rowsOf Tryz.prog) : TyOK U E 36 :=
  have c : CodecOK U (Codec.list 156 15 (fun (a : api_Control) => .agg (cd155.encV a)) : Codec Ty (List (Ty 156))) [15] := CodecOK.list (U := U) (t := 156) (n := 15) (e := fun (a : api_Control) => .agg (cd155.encV a)) (fun _ => rfl) rfl (fun a => cdok155.nr a) (fun a b h => cdok155.inj _ _ (by injection h))
  ⟨fun a => c.oneEnc a, fun v a h => by rw [hE, rows36]; exact c.one h (na_list (U := U) (t := 156) (n := 15) (e := fun (a : api_Control) => .agg (cd155.encV a)) h), fun a => by first | rfl | exact (congrArg (fun x => [x]) (c.oneEnc a).symm), fun a => c.oneNr a, fun a b h => c.oneInj h⟩
theorem rows62 : rowsOf Tryz.prog 62 = [1] := by kernel_rfl
theorem tyok62 {E : Env} (hE : E.rows = rowsOf Tryz.prog) : TyOK U E 62 :=
  have c : CodecOK U (Codec.list 5 1 (fun (a : Int) => ((Codec.int .u8 : Codec Ty Int)).oneV a) : Codec Ty (List (Ty 5))) [1] := CodecOK.list (U := U) (t := 5) (n := 1) (e := fun (a : Int) => ((Codec.int .u8 : Codec Ty Int)).oneV a) (fun _ => rfl) rfl (fun a => (CodecOK.int _ : CodecOK U (Codec.int .u8 : Codec Ty Int) _).oneNr a) (fun a b h => (CodecOK.int _ : CodecOK U (Codec.int .u8 : Codec Ty Int) _).oneInj h)
  ⟨fun a => c.oneEnc a, fun v a h => by rw [hE, rows62]; exact c.one h (na_list (U := U) (t := 5) (n := 1) (e := fun (a : Int) => ((Codec.int .u8 : Codec Ty Int)).oneV a) h), fun a => by first | rfl | exact (congrArg (fun x => [x]) (c.oneEnc a).symm), fun a => c.oneNr a, fun a b h => c.oneInj h⟩
theorem rows37 : rowsOf Tryz.prog 37 = [8] := by kernel_rfl
theorem tyok37 {E : Env} (hE : E.rows = rowsOf Tryz.prog) : TyOK U E 37 :=
  have c : CodecOK U (Codec.list 138 8 (fun (a : api_Change) => .agg (cd137.encV a)) : Codec Ty (List (Ty 138))) [8] := CodecOK.list (U := U) (t := 138) (n := 8) (e := fun (a : api_Change) => .agg (cd137.encV a)) (fun _ => rfl) rfl (fun a => cdok137.nr a) (fun a b h => cdok137.inj _ _ (by injection h))
  ⟨fun a => c.oneEnc a, fun v a h => by rw [hE, rows37]; exact c.one h (na_list (U := U) (t := 138) (n := 8) (e := fun (a : api_Change) => .agg (cd137.encV a)) h), fun a => by first | rfl | exact (congrArg (fun x => [x]) (c.oneEnc a).symm), fun a => c.oneNr a, fun a b h => c.oneInj h⟩
theorem rows30 : rowsOf Tryz.prog 30 = [0] := by kernel_rfl
theorem tyok30 {E : Env} (hE : E.rows = rowsOf Tryz.prog) : TyOK U E 30 :=
  have c : CodecOK U (Codec.int .u16 : Codec Ty Int) [0] := CodecOK.int _
  ⟨fun a => c.oneEnc a, fun v a h => by rw [hE, rows30]; exact c.one h (na_int h), fun a => by first | rfl | exact (congrArg (fun x => [x]) (c.oneEnc a).symm), fun a => c.oneNr a, fun a b h => c.oneInj h⟩
theorem rows22 : rowsOf Tryz.prog 22 = [0] := by kernel_rfl
theorem tyok22 {E : Env} (hE : E.rows = rowsOf Tryz.prog) : TyOK U E 22 :=
  have c : CodecOK U (Codec.int .u32 : Codec Ty Int) [0] := CodecOK.int _
  ⟨fun a => c.oneEnc a, fun v a h => by rw [hE, rows22]; exact c.one h (na_int h), fun a => by first | rfl | exact (congrArg (fun x => [x]) (c.oneEnc a).symm), fun a => c.oneNr a, fun a b h => c.oneInj h⟩
theorem tyok104 {E : Env} (hE : E.rows = rowsOf Tryz.prog) : TyOK U E 104 := by
  refine ⟨fun a => ?_, fun v a h => (by cases h), fun a => ?_, fun a => ?_, fun a b h => ?_⟩
  · first | rfl | skip
    all_goals show V.tup _ = V.tup _
    all_goals congr 1
    all_goals simp only [toVs, show toV U (((Codec.int .i64 : Codec Ty Int)).oneS a.1) = (((Codec.int .i64 : Codec Ty Int)).oneV a.1) from (tyok3 hE).encS a.1, show toV U (((Codec.int .i64 : Codec Ty Int)).oneS a.2) = (((Codec.int .i64 : Codec Ty Int)).oneV a.2) from (tyok3 hE).encS a.2]
  · first | rfl | skip
    all_goals show [V.tup _] = [V.tup _]
    all_goals congr 2
    all_goals simp only [toVs, show toV U (((Codec.int .i64 : Codec Ty Int)).oneS a.1) = (((Codec.int .i64 : Codec Ty Int)).oneV a.1) from (tyok3 hE).encS a.1, show toV U (((Codec.int .i64 : Codec Ty Int)).oneS a.2) = (((Codec.int .i64 : Codec Ty Int)).oneV a.2) from (tyok3 hE).encS a.2]
  · show noRefs [((Codec.int .i64 : Codec Ty Int)).oneV a.1, ((Codec.int .i64 : Codec Ty Int)).oneV a.2] = true
    simp only [noRefs, show noRef (((Codec.int .i64 : Codec Ty Int)).oneV a.1) = true from (tyok3 hE).nr a.1, show noRef (((Codec.int .i64 : Codec Ty Int)).oneV a.2) = true from (tyok3 hE).nr a.2, Bool.and_self]
  · have h : V.tup [((Codec.int .i64 : Codec Ty Int)).oneV a.1, ((Codec.int .i64 : Codec Ty Int)).oneV a.2] = V.tup [((Codec.int .i64 : Codec Ty Int)).oneV b.1, ((Codec.int .i64 : Codec Ty Int)).oneV b.2] := h
    simp only [V.tup.injEq, List.cons.injEq, and_true] at h
    exact Prod.ext ((tyok3 hE).inj _ _ h.1) ((tyok3 hE).inj _ _ h.2)
theorem ty_empty (t : Nat) (h4 : ¬ t = 4) (h174 : ¬ t = 174) (h240 : ¬ t = 240) (h45 : ¬ t = 45) (h24 : ¬ t = 24) (h3 : ¬ t = 3) (h25 : ¬ t = 25) (h26 : ¬ t = 26) (h28 : ¬ t = 28) (h52 : ¬ t = 52) (h5 : ¬ t = 5) (h68 : ¬ t = 68) (h33 : ¬ t = 33) (h35 : ¬ t = 35) (h156 : ¬ t = 156) (h138 : ¬ t = 138) (h39 : ¬ t = 39) (h99 : ¬ t = 99) (h42 : ¬ t = 42) (h44 : ¬ t = 44) (h46 : ¬ t = 46) (h29 : ¬ t = 29) (h226 : ¬ t = 226) (h31 : ¬ t = 31) (h36 : ¬ t = 36) (h62 : ¬ t = 62) (h37 : ¬ t = 37) (h30 : ¬ t = 30) (h22 : ¬ t = 22) (h104 : ¬ t = 104) (a : Ty t) : False := by
  unfold Ty at a
  split at a <;> first | contradiction | exact a.elim
theorem univ_ok (E : Env) (hE : E.rows = rowsOf Tryz.prog) : UnivOK U E := by
  refine ⟨?_, ?_, ?_, ?_, ?_⟩
  · intro t
    by_cases h4 : t = 4
    · subst h4; exact fun a => (tyok4 hE).encS a
    by_cases h174 : t = 174
    · subst h174; exact fun a => (tyok174 hE).encS a
    by_cases h240 : t = 240
    · subst h240; exact fun a => (tyok240 hE).encS a
    by_cases h45 : t = 45
    · subst h45; exact fun a => (tyok45 hE).encS a
    by_cases h24 : t = 24
    · subst h24; exact fun a => (tyok24 hE).encS a
    by_cases h3 : t = 3
    · subst h3; exact fun a => (tyok3 hE).encS a
    by_cases h25 : t = 25
    · subst h25; exact fun a => (tyok25 hE).encS a
    by_cases h26 : t = 26
    · subst h26; exact fun a => (tyok26 hE).encS a
    by_cases h28 : t = 28
    · subst h28; exact fun a => (tyok28 hE).encS a
    by_cases h52 : t = 52
    · subst h52; exact fun a => (tyok52 hE).encS a
    by_cases h5 : t = 5
    · subst h5; exact fun a => (tyok5 hE).encS a
    by_cases h68 : t = 68
    · subst h68; exact fun a => (tyok68 hE).encS a
    by_cases h33 : t = 33
    · subst h33; exact fun a => (tyok33 hE).encS a
    by_cases h35 : t = 35
    · subst h35; exact fun a => (tyok35 hE).encS a
    by_cases h156 : t = 156
    · subst h156; exact fun a => (tyok156 hE).encS a
    by_cases h138 : t = 138
    · subst h138; exact fun a => (tyok138 hE).encS a
    by_cases h39 : t = 39
    · subst h39; exact fun a => (tyok39 hE).encS a
    by_cases h99 : t = 99
    · subst h99; exact fun a => (tyok99 hE).encS a
    by_cases h42 : t = 42
    · subst h42; exact fun a => (tyok42 hE).encS a
    by_cases h44 : t = 44
    · subst h44; exact fun a => (tyok44 hE).encS a
    by_cases h46 : t = 46
    · subst h46; exact fun a => (tyok46 hE).encS a
    by_cases h29 : t = 29
    · subst h29; exact fun a => (tyok29 hE).encS a
    by_cases h226 : t = 226
    · subst h226; exact fun a => (tyok226 hE).encS a
    by_cases h31 : t = 31
    · subst h31; exact fun a => (tyok31 hE).encS a
    by_cases h36 : t = 36
    · subst h36; exact fun a => (tyok36 hE).encS a
    by_cases h62 : t = 62
    · subst h62; exact fun a => (tyok62 hE).encS a
    by_cases h37 : t = 37
    · subst h37; exact fun a => (tyok37 hE).encS a
    by_cases h30 : t = 30
    · subst h30; exact fun a => (tyok30 hE).encS a
    by_cases h22 : t = 22
    · subst h22; exact fun a => (tyok22 hE).encS a
    by_cases h104 : t = 104
    · subst h104; exact fun a => (tyok104 hE).encS a
    exact fun a => (ty_empty t h4 h174 h240 h45 h24 h3 h25 h26 h28 h52 h5 h68 h33 h35 h156 h138 h39 h99 h42 h44 h46 h29 h226 h31 h36 h62 h37 h30 h22 h104 a).elim
  · intro t
    by_cases h4 : t = 4
    · subst h4; exact fun v a h => (tyok4 hE).dec v a h
    by_cases h174 : t = 174
    · subst h174; exact fun v a h => (tyok174 hE).dec v a h
    by_cases h240 : t = 240
    · subst h240; exact fun v a h => (tyok240 hE).dec v a h
    by_cases h45 : t = 45
    · subst h45; exact fun v a h => (tyok45 hE).dec v a h
    by_cases h24 : t = 24
    · subst h24; exact fun v a h => (tyok24 hE).dec v a h
    by_cases h3 : t = 3
    · subst h3; exact fun v a h => (tyok3 hE).dec v a h
    by_cases h25 : t = 25
    · subst h25; exact fun v a h => (tyok25 hE).dec v a h
    by_cases h26 : t = 26
    · subst h26; exact fun v a h => (tyok26 hE).dec v a h
    by_cases h28 : t = 28
    · subst h28; exact fun v a h => (tyok28 hE).dec v a h
    by_cases h52 : t = 52
    · subst h52; exact fun v a h => (tyok52 hE).dec v a h
    by_cases h5 : t = 5
    · subst h5; exact fun v a h => (tyok5 hE).dec v a h
    by_cases h68 : t = 68
    · subst h68; exact fun v a h => (tyok68 hE).dec v a h
    by_cases h33 : t = 33
    · subst h33; exact fun v a h => (tyok33 hE).dec v a h
    by_cases h35 : t = 35
    · subst h35; exact fun v a h => (tyok35 hE).dec v a h
    by_cases h156 : t = 156
    · subst h156; exact fun v a h => (tyok156 hE).dec v a h
    by_cases h138 : t = 138
    · subst h138; exact fun v a h => (tyok138 hE).dec v a h
    by_cases h39 : t = 39
    · subst h39; exact fun v a h => (tyok39 hE).dec v a h
    by_cases h99 : t = 99
    · subst h99; exact fun v a h => (tyok99 hE).dec v a h
    by_cases h42 : t = 42
    · subst h42; exact fun v a h => (tyok42 hE).dec v a h
    by_cases h44 : t = 44
    · subst h44; exact fun v a h => (tyok44 hE).dec v a h
    by_cases h46 : t = 46
    · subst h46; exact fun v a h => (tyok46 hE).dec v a h
    by_cases h29 : t = 29
    · subst h29; exact fun v a h => (tyok29 hE).dec v a h
    by_cases h226 : t = 226
    · subst h226; exact fun v a h => (tyok226 hE).dec v a h
    by_cases h31 : t = 31
    · subst h31; exact fun v a h => (tyok31 hE).dec v a h
    by_cases h36 : t = 36
    · subst h36; exact fun v a h => (tyok36 hE).dec v a h
    by_cases h62 : t = 62
    · subst h62; exact fun v a h => (tyok62 hE).dec v a h
    by_cases h37 : t = 37
    · subst h37; exact fun v a h => (tyok37 hE).dec v a h
    by_cases h30 : t = 30
    · subst h30; exact fun v a h => (tyok30 hE).dec v a h
    by_cases h22 : t = 22
    · subst h22; exact fun v a h => (tyok22 hE).dec v a h
    by_cases h104 : t = 104
    · subst h104; exact fun v a h => (tyok104 hE).dec v a h
    exact fun v a h => (ty_empty t h4 h174 h240 h45 h24 h3 h25 h26 h28 h52 h5 h68 h33 h35 h156 h138 h39 h99 h42 h44 h46 h29 h226 h31 h36 h62 h37 h30 h22 h104 a).elim
  · intro t
    by_cases h4 : t = 4
    · subst h4; exact fun a => (tyok4 hE).cells a
    by_cases h174 : t = 174
    · subst h174; exact fun a => (tyok174 hE).cells a
    by_cases h240 : t = 240
    · subst h240; exact fun a => (tyok240 hE).cells a
    by_cases h45 : t = 45
    · subst h45; exact fun a => (tyok45 hE).cells a
    by_cases h24 : t = 24
    · subst h24; exact fun a => (tyok24 hE).cells a
    by_cases h3 : t = 3
    · subst h3; exact fun a => (tyok3 hE).cells a
    by_cases h25 : t = 25
    · subst h25; exact fun a => (tyok25 hE).cells a
    by_cases h26 : t = 26
    · subst h26; exact fun a => (tyok26 hE).cells a
    by_cases h28 : t = 28
    · subst h28; exact fun a => (tyok28 hE).cells a
    by_cases h52 : t = 52
    · subst h52; exact fun a => (tyok52 hE).cells a
    by_cases h5 : t = 5
    · subst h5; exact fun a => (tyok5 hE).cells a
    by_cases h68 : t = 68
    · subst h68; exact fun a => (tyok68 hE).cells a
    by_cases h33 : t = 33
    · subst h33; exact fun a => (tyok33 hE).cells a
    by_cases h35 : t = 35
    · subst h35; exact fun a => (tyok35 hE).cells a
    by_cases h156 : t = 156
    · subst h156; exact fun a => (tyok156 hE).cells a
    by_cases h138 : t = 138
    · subst h138; exact fun a => (tyok138 hE).cells a
    by_cases h39 : t = 39
    · subst h39; exact fun a => (tyok39 hE).cells a
    by_cases h99 : t = 99
    · subst h99; exact fun a => (tyok99 hE).cells a
    by_cases h42 : t = 42
    · subst h42; exact fun a => (tyok42 hE).cells a
    by_cases h44 : t = 44
    · subst h44; exact fun a => (tyok44 hE).cells a
    by_cases h46 : t = 46
    · subst h46; exact fun a => (tyok46 hE).cells a
    by_cases h29 : t = 29
    · subst h29; exact fun a => (tyok29 hE).cells a
    by_cases h226 : t = 226
    · subst h226; exact fun a => (tyok226 hE).cells a
    by_cases h31 : t = 31
    · subst h31; exact fun a => (tyok31 hE).cells a
    by_cases h36 : t = 36
    · subst h36; exact fun a => (tyok36 hE).cells a
    by_cases h62 : t = 62
    · subst h62; exact fun a => (tyok62 hE).cells a
    by_cases h37 : t = 37
    · subst h37; exact fun a => (tyok37 hE).cells a
    by_cases h30 : t = 30
    · subst h30; exact fun a => (tyok30 hE).cells a
    by_cases h22 : t = 22
    · subst h22; exact fun a => (tyok22 hE).cells a
    by_cases h104 : t = 104
    · subst h104; exact fun a => (tyok104 hE).cells a
    exact fun a => (ty_empty t h4 h174 h240 h45 h24 h3 h25 h26 h28 h52 h5 h68 h33 h35 h156 h138 h39 h99 h42 h44 h46 h29 h226 h31 h36 h62 h37 h30 h22 h104 a).elim
  · intro t
    by_cases h4 : t = 4
    · subst h4; exact fun a => (tyok4 hE).nr a
    by_cases h174 : t = 174
    · subst h174; exact fun a => (tyok174 hE).nr a
    by_cases h240 : t = 240
    · subst h240; exact fun a => (tyok240 hE).nr a
    by_cases h45 : t = 45
    · subst h45; exact fun a => (tyok45 hE).nr a
    by_cases h24 : t = 24
    · subst h24; exact fun a => (tyok24 hE).nr a
    by_cases h3 : t = 3
    · subst h3; exact fun a => (tyok3 hE).nr a
    by_cases h25 : t = 25
    · subst h25; exact fun a => (tyok25 hE).nr a
    by_cases h26 : t = 26
    · subst h26; exact fun a => (tyok26 hE).nr a
    by_cases h28 : t = 28
    · subst h28; exact fun a => (tyok28 hE).nr a
    by_cases h52 : t = 52
    · subst h52; exact fun a => (tyok52 hE).nr a
    by_cases h5 : t = 5
    · subst h5; exact fun a => (tyok5 hE).nr a
    by_cases h68 : t = 68
    · subst h68; exact fun a => (tyok68 hE).nr a
    by_cases h33 : t = 33
    · subst h33; exact fun a => (tyok33 hE).nr a
    by_cases h35 : t = 35
    · subst h35; exact fun a => (tyok35 hE).nr a
    by_cases h156 : t = 156
    · subst h156; exact fun a => (tyok156 hE).nr a
    by_cases h138 : t = 138
    · subst h138; exact fun a => (tyok138 hE).nr a
    by_cases h39 : t = 39
    · subst h39; exact fun a => (tyok39 hE).nr a
    by_cases h99 : t = 99
    · subst h99; exact fun a => (tyok99 hE).nr a
    by_cases h42 : t = 42
    · subst h42; exact fun a => (tyok42 hE).nr a
    by_cases h44 : t = 44
    · subst h44; exact fun a => (tyok44 hE).nr a
    by_cases h46 : t = 46
    · subst h46; exact fun a => (tyok46 hE).nr a
    by_cases h29 : t = 29
    · subst h29; exact fun a => (tyok29 hE).nr a
    by_cases h226 : t = 226
    · subst h226; exact fun a => (tyok226 hE).nr a
    by_cases h31 : t = 31
    · subst h31; exact fun a => (tyok31 hE).nr a
    by_cases h36 : t = 36
    · subst h36; exact fun a => (tyok36 hE).nr a
    by_cases h62 : t = 62
    · subst h62; exact fun a => (tyok62 hE).nr a
    by_cases h37 : t = 37
    · subst h37; exact fun a => (tyok37 hE).nr a
    by_cases h30 : t = 30
    · subst h30; exact fun a => (tyok30 hE).nr a
    by_cases h22 : t = 22
    · subst h22; exact fun a => (tyok22 hE).nr a
    by_cases h104 : t = 104
    · subst h104; exact fun a => (tyok104 hE).nr a
    exact fun a => (ty_empty t h4 h174 h240 h45 h24 h3 h25 h26 h28 h52 h5 h68 h33 h35 h156 h138 h39 h99 h42 h44 h46 h29 h226 h31 h36 h62 h37 h30 h22 h104 a).elim
  · intro t ht
    by_cases h4 : t = 4
    · subst h4; exact fun a b h => (tyok4 hE).inj a b h
    by_cases h174 : t = 174
    · subst h174; exact fun a b h => (tyok174 hE).inj a b h
    by_cases h240 : t = 240
    · subst h240; exact fun a b h => (tyok240 hE).inj a b h
    by_cases h45 : t = 45
    · subst h45; exact fun a b h => (tyok45 hE).inj a b h
    by_cases h24 : t = 24
    · subst h24; exact fun a b h => (tyok24 hE).inj a b h
    by_cases h3 : t = 3
    · subst h3; exact fun a b h => (tyok3 hE).inj a b h
    by_cases h25 : t = 25
    · subst h25; exact fun a b h => (tyok25 hE).inj a b h
    by_cases h26 : t = 26
    · subst h26; exact fun a b h => (tyok26 hE).inj a b h
    by_cases h28 : t = 28
    · subst h28; exact fun a b h => (tyok28 hE).inj a b h
    by_cases h52 : t = 52
    · subst h52; exact fun a b h => (tyok52 hE).inj a b h
    by_cases h5 : t = 5
    · subst h5; exact fun a b h => (tyok5 hE).inj a b h
    by_cases h68 : t = 68
    · subst h68; exact fun a b h => (tyok68 hE).inj a b h
    by_cases h33 : t = 33
    · subst h33; exact fun a b h => (tyok33 hE).inj a b h
    by_cases h35 : t = 35
    · subst h35; exact fun a b h => (tyok35 hE).inj a b h
    by_cases h156 : t = 156
    · subst h156; exact fun a b h => (tyok156 hE).inj a b h
    by_cases h138 : t = 138
    · subst h138; exact fun a b h => (tyok138 hE).inj a b h
    by_cases h39 : t = 39
    · subst h39; exact fun a b h => (tyok39 hE).inj a b h
    by_cases h99 : t = 99
    · subst h99; exact fun a b h => (tyok99 hE).inj a b h
    by_cases h42 : t = 42
    · subst h42; exact fun a b h => (tyok42 hE).inj a b h
    by_cases h44 : t = 44
    · subst h44; exact fun a b h => (tyok44 hE).inj a b h
    by_cases h46 : t = 46
    · subst h46; exact fun a b h => (tyok46 hE).inj a b h
    by_cases h29 : t = 29
    · subst h29; exact fun a b h => (tyok29 hE).inj a b h
    by_cases h226 : t = 226
    · subst h226; exact fun a b h => (tyok226 hE).inj a b h
    by_cases h31 : t = 31
    · subst h31; exact fun a b h => (tyok31 hE).inj a b h
    by_cases h36 : t = 36
    · subst h36; exact fun a b h => (tyok36 hE).inj a b h
    by_cases h62 : t = 62
    · subst h62; exact fun a b h => (tyok62 hE).inj a b h
    by_cases h37 : t = 37
    · subst h37; exact fun a b h => (tyok37 hE).inj a b h
    by_cases h30 : t = 30
    · subst h30; exact fun a b h => (tyok30 hE).inj a b h
    by_cases h22 : t = 22
    · subst h22; exact fun a b h => (tyok22 hE).inj a b h
    by_cases h104 : t = 104
    · subst h104; exact fun a b h => (tyok104 hE).inj a b h
    exact absurd ht (by simp [h4, h174, h240, h45, h24, h3, h25, h26, h28, h52, h5, h68, h33, h35, h156, h138, h39, h99, h42, h44, h46, h29, h226, h31, h36, h62, h37, h30, h22, h104])

def sumsV : List V := [0, 1788928, 3577856, 3003392, 7155712, 7764992, 6006784, 4252672, 14311424, 12659712, 15529984, 16233472, 12013568, 11279360, 8505344, 10126336].map fun n => V.lit (.int .u32 n)
def gl : Nat → Option (List V) := fun g => if g = 0 then some sumsV else none

theorem mix_ok : Tryz.prog.follows .mixedOrders = true := by kernel_rfl
noncomputable def noH : FuncId → List FuncId → Option (HMod U) := fun _ _ => none
noncomputable def B0 : Env := EV (U := U) Tryz.prog gl 0 (fun _ => none) noH
end Go.Proofs.YtjodhcdmhobmoaaGreatDoor
