/-
  The program's types as types of Lean (printed by a program of mine).
-/
import Derived.Test.YtkepnndakhpgoaaGreatDoorL6
import Derived.Test.YtkepnndakhpgoaaGreatDoorProg
import Derived.KernelRfl
namespace Go.Proofs.YtkepnndakhpgoaaGreatDoor
open Go Go.Proofs.YtkepnndakhpgoaaGreatDoor.Le
set_option linter.unusedVariables false
set_option maxRecDepth 100000
structure api_SeqID where
  Src : Int
  IV : Int
  Seq : Int
@[reducible] def z_api_SeqID : api_SeqID := ⟨(0 : Int), (0 : Int), (0 : Int)⟩
structure api_Access where
  Src : Int
  Dst : Int
  App : Bool
  TTL : Int
  Seq : api_SeqID
  Bytes : List Int
@[reducible] def z_api_Access : api_Access := ⟨(0 : Int), (0 : Int), false, (0 : Int), z_api_SeqID, []⟩
structure api_MeshEvent where
  Kind : Int
  Access : api_Access
  Peer : Int
  Number : Int
@[reducible] def z_api_MeshEvent : api_MeshEvent := ⟨(0 : Int), z_api_Access, (0 : Int), (0 : Int)⟩
structure api_MeshNote where
  Node : Int
  Time : Int
  Event : api_MeshEvent
@[reducible] def z_api_MeshNote : api_MeshNote := ⟨(0 : Int), (0 : Int), z_api_MeshEvent⟩
structure api_NetKey where
  Key : Int
  NID : Int
  Encrypt : Int
  Hide : Int
  Beacon : Int
@[reducible] def z_api_NetKey : api_NetKey := ⟨(0 : Int), (0 : Int), (0 : Int), (0 : Int), (0 : Int)⟩
structure api_KeyState where
  Phase : Int
  Old : api_NetKey
  New : api_NetKey
@[reducible] def z_api_KeyState : api_KeyState := ⟨(0 : Int), z_api_NetKey, z_api_NetKey⟩
structure api_IVState where
  Index : Int
  Updating : Bool
  Since : Int
@[reducible] def z_api_IVState : api_IVState := ⟨(0 : Int), false, (0 : Int)⟩
structure api_Outgoing where
  Dst : Int
  Src : Int
  App : Bool
  Zero : Int
  IV : Int
  Parts : List (List Int)
  Acked : Int
  Due : Int
  Tries : Int
  TTL : Int
@[reducible] def z_api_Outgoing : api_Outgoing := ⟨(0 : Int), (0 : Int), false, (0 : Int), (0 : Int), [], (0 : Int), (0 : Int), (0 : Int), (0 : Int)⟩
structure api_Incoming where
  Src : Int
  Dst : Int
  App : Bool
  Zero : Int
  IV : Int
  Last : Int
  Parts : List (List Int)
  Block : Int
  Due : Int
  TTL : Int
  Done : Bool
@[reducible] def z_api_Incoming : api_Incoming := ⟨(0 : Int), (0 : Int), false, (0 : Int), (0 : Int), (0 : Int), [], (0 : Int), (0 : Int), (0 : Int), false⟩
structure api_Transport where
  Out : List api_Outgoing
  In : List api_Incoming
structure api_NetPDU where
  IV : Int
  NID : Int
  Control : Bool
  TTL : Int
  Seq : Int
  Src : Int
  Dst : Int
  Payload : List Int
@[reducible] def z_api_NetPDU : api_NetPDU := ⟨(0 : Int), (0 : Int), false, (0 : Int), (0 : Int), (0 : Int), (0 : Int), []⟩
structure api_Lower where
  Control : Bool
  Segmented : Bool
  App : Bool
  Zero : Int
  Index : Int
  Last : Int
  Opcode : Int
  Block : Int
  Friend : Bool
  Bytes : List Int
@[reducible] def z_api_Lower : api_Lower := ⟨false, false, false, (0 : Int), (0 : Int), (0 : Int), (0 : Int), (0 : Int), false, []⟩
structure api_Queued where
  PDU : api_NetPDU
  Lower : api_Lower
structure api_Friend where
  Low : Int
  Queue : List api_Queued
  Subs : List Int
  Bit : Int
  Sent : Bool
  Polled : Int
  Counter : Int
  Dropped : Int
@[reducible] def z_api_Friend : api_Friend := ⟨(0 : Int), [], [], (0 : Int), false, (0 : Int), (0 : Int), (0 : Int)⟩
structure api_LowPower where
  Phase : Int
  Friend : Int
  Bit : Int
  Counter : Int
  Due : Int
  Tries : Int
  Subs : List Int
  Told : Int
  More : Bool
  Last : Int
@[reducible] def z_api_LowPower : api_LowPower := ⟨(0 : Int), (0 : Int), (0 : Int), (0 : Int), (0 : Int), (0 : Int), [], (0 : Int), false, (0 : Int)⟩
structure api_Timed where
  Due : Int
  Bytes : List Int
  To : Int
@[reducible] def z_api_Timed : api_Timed := ⟨(0 : Int), [], (0 : Int)⟩
structure api_Node where
  Address : Int
  Device : Int
  App : Int
  Keys : api_KeyState
  IV : api_IVState
  Seq : Int
  Relay : Bool
  Befriends : Bool
  Groups : List Int
  Cache : List api_SeqID
  Replays : List api_SeqID
  Transport : api_Transport
  Friend : api_Friend
  Low : api_LowPower
  Out : List api_Timed
  Stored : Int
  Up : Bool
@[reducible] def z_api_Node : api_Node := ⟨(0 : Int), (0 : Int), (0 : Int), z_api_KeyState, z_api_IVState, (0 : Int), false, false, [], [], [], (⟨[], []⟩ : api_Transport), z_api_Friend, z_api_LowPower, [], (0 : Int), false⟩
structure api_Fault where
  Kind : Int
  Device : Int
  Conn : Int
@[reducible] def z_api_Fault : api_Fault := ⟨(0 : Int), (0 : Int), (0 : Int)⟩
structure api_Pair where
  A : Int
  B : Int
structure api_Loss where
  ID : Int
  To : Int
structure api_Hop where
  From : Int
  To : Int
  Due : Int
  Bytes : List Int
@[reducible] def z_api_Hop : api_Hop := ⟨(0 : Int), (0 : Int), (0 : Int), []⟩
structure api_Mesh where
  Nodes : List api_Node
  Links : List api_Pair
  Losses : List api_Loss
  Count : Int
  Now : Int
  Flight : List api_Hop
  Notes : List api_MeshNote
@[reducible] def z_api_Mesh : api_Mesh := ⟨[], [], [], (0 : Int), (0 : Int), [], []⟩
structure Y_slices_Clone_byte where
  q0 : List Int
@[reducible] def Ty : Nat → Type
  | 1402 => Y_slices_Clone_byte
  | 4 => Bool
  | 3 => Int
  | 5 => Int
  | 88 => api_MeshNote
  | 22 => List api_MeshNote
  | 41 => Int
  | 82 => api_SeqID
  | 387 => api_SeqID
  | 65 => List Int
  | 389 => api_Outgoing
  | 391 => api_Incoming
  | 397 => api_Queued
  | 399 => api_Timed
  | 345 => api_Node
  | 70 => api_Fault
  | 31 => List api_Fault
  | 9 => ByteArray
  | 102 => List ByteArray
  | 347 => api_Pair
  | 349 => api_Loss
  | 351 => api_Hop
  | 29 => api_Mesh
  | _ => Empty
abbrev cu8 : Codec Ty Int := Codec.int .u8
abbrev cu16 : Codec Ty Int := Codec.int .u16
abbrev cu32 : Codec Ty Int := Codec.int .u32
abbrev cu64 : Codec Ty Int := Codec.int .u64
abbrev ci64 : Codec Ty Int := Codec.int .i64
abbrev cbo : Codec Ty Bool := Codec.bool
abbrev cst : Codec Ty ByteArray := Codec.str
def cd81 : Codec Ty api_SeqID := Codec.iso (fun x => (x.Src, x.IV, x.Seq, ())) (fun p => ⟨p.1, p.2.1, p.2.2.1⟩) (Codec.pair cu16 (Codec.pair cu32 (Codec.pair cu32 Codec.unit)))
def cd83 : Codec Ty api_Access := Codec.iso (fun x => (x.Src, x.Dst, x.App, x.TTL, x.Seq, x.Bytes, ())) (fun p => ⟨p.1, p.2.1, p.2.2.1, p.2.2.2.1, p.2.2.2.2.1, p.2.2.2.2.2.1⟩) (Codec.pair cu16 (Codec.pair cu16 (Codec.pair cbo (Codec.pair ci64 (Codec.pair cd81 (Codec.pair (Codec.list 5 1 (fun (a : Int) => cu8.oneV a) : Codec Ty (List (Ty 5))) Codec.unit))))))
def cd85 : Codec Ty api_MeshEvent := Codec.iso (fun x => (x.Kind, x.Access, x.Peer, x.Number, ())) (fun p => ⟨p.1, p.2.1, p.2.2.1, p.2.2.2.1⟩) (Codec.pair ci64 (Codec.pair cd83 (Codec.pair cu16 (Codec.pair cu64 Codec.unit))))
def cd87 : Codec Ty api_MeshNote := Codec.iso (fun x => (x.Node, x.Time, x.Event, ())) (fun p => ⟨p.1, p.2.1, p.2.2.1⟩) (Codec.pair ci64 (Codec.pair ci64 (Codec.pair cd85 Codec.unit)))
def cd388 : Codec Ty api_Outgoing := Codec.iso (fun x => (x.Dst, x.Src, x.App, x.Zero, x.IV, x.Parts, x.Acked, x.Due, x.Tries, x.TTL, ())) (fun p => ⟨p.1, p.2.1, p.2.2.1, p.2.2.2.1, p.2.2.2.2.1, p.2.2.2.2.2.1, p.2.2.2.2.2.2.1, p.2.2.2.2.2.2.2.1, p.2.2.2.2.2.2.2.2.1, p.2.2.2.2.2.2.2.2.2.1⟩) (Codec.pair cu16 (Codec.pair cu16 (Codec.pair cbo (Codec.pair cu32 (Codec.pair cu32 (Codec.pair (Codec.list 65 1 (fun (a : List Int) => ((Codec.list 5 1 (fun (a : Int) => cu8.oneV a) : Codec Ty (List (Ty 5)))).oneV a) : Codec Ty (List (Ty 65))) (Codec.pair cu32 (Codec.pair ci64 (Codec.pair ci64 (Codec.pair ci64 Codec.unit))))))))))
def cd390 : Codec Ty api_Incoming := Codec.iso (fun x => (x.Src, x.Dst, x.App, x.Zero, x.IV, x.Last, x.Parts, x.Block, x.Due, x.TTL, x.Done, ())) (fun p => ⟨p.1, p.2.1, p.2.2.1, p.2.2.2.1, p.2.2.2.2.1, p.2.2.2.2.2.1, p.2.2.2.2.2.2.1, p.2.2.2.2.2.2.2.1, p.2.2.2.2.2.2.2.2.1, p.2.2.2.2.2.2.2.2.2.1, p.2.2.2.2.2.2.2.2.2.2.1⟩) (Codec.pair cu16 (Codec.pair cu16 (Codec.pair cbo (Codec.pair cu32 (Codec.pair cu32 (Codec.pair ci64 (Codec.pair (Codec.list 65 1 (fun (a : List Int) => ((Codec.list 5 1 (fun (a : Int) => cu8.oneV a) : Codec Ty (List (Ty 5)))).oneV a) : Codec Ty (List (Ty 65))) (Codec.pair cu32 (Codec.pair ci64 (Codec.pair ci64 (Codec.pair cbo Codec.unit)))))))))))
def cd392 : Codec Ty api_NetPDU := Codec.iso (fun x => (x.IV, x.NID, x.Control, x.TTL, x.Seq, x.Src, x.Dst, x.Payload, ())) (fun p => ⟨p.1, p.2.1, p.2.2.1, p.2.2.2.1, p.2.2.2.2.1, p.2.2.2.2.2.1, p.2.2.2.2.2.2.1, p.2.2.2.2.2.2.2.1⟩) (Codec.pair cu32 (Codec.pair ci64 (Codec.pair cbo (Codec.pair ci64 (Codec.pair cu32 (Codec.pair cu16 (Codec.pair cu16 (Codec.pair (Codec.list 5 1 (fun (a : Int) => cu8.oneV a) : Codec Ty (List (Ty 5))) Codec.unit))))))))
def cd394 : Codec Ty api_Lower := Codec.iso (fun x => (x.Control, x.Segmented, x.App, x.Zero, x.Index, x.Last, x.Opcode, x.Block, x.Friend, x.Bytes, ())) (fun p => ⟨p.1, p.2.1, p.2.2.1, p.2.2.2.1, p.2.2.2.2.1, p.2.2.2.2.2.1, p.2.2.2.2.2.2.1, p.2.2.2.2.2.2.2.1, p.2.2.2.2.2.2.2.2.1, p.2.2.2.2.2.2.2.2.2.1⟩) (Codec.pair cbo (Codec.pair cbo (Codec.pair cbo (Codec.pair ci64 (Codec.pair ci64 (Codec.pair ci64 (Codec.pair ci64 (Codec.pair cu32 (Codec.pair cbo (Codec.pair (Codec.list 5 1 (fun (a : Int) => cu8.oneV a) : Codec Ty (List (Ty 5))) Codec.unit))))))))))
def cd396 : Codec Ty api_Queued := Codec.iso (fun x => (x.PDU, x.Lower, ())) (fun p => ⟨p.1, p.2.1⟩) (Codec.pair cd392 (Codec.pair cd394 Codec.unit))
def cd398 : Codec Ty api_Timed := Codec.iso (fun x => (x.Due, x.Bytes, x.To, ())) (fun p => ⟨p.1, p.2.1, p.2.2.1⟩) (Codec.pair ci64 (Codec.pair (Codec.list 5 1 (fun (a : Int) => cu8.oneV a) : Codec Ty (List (Ty 5))) (Codec.pair cu16 Codec.unit)))
def cd326 : Codec Ty api_NetKey := Codec.iso (fun x => (x.Key, x.NID, x.Encrypt, x.Hide, x.Beacon, ())) (fun p => ⟨p.1, p.2.1, p.2.2.1, p.2.2.2.1, p.2.2.2.2.1⟩) (Codec.pair cu64 (Codec.pair ci64 (Codec.pair cu64 (Codec.pair cu64 (Codec.pair cu64 Codec.unit)))))
def cd328 : Codec Ty api_KeyState := Codec.iso (fun x => (x.Phase, x.Old, x.New, ())) (fun p => ⟨p.1, p.2.1, p.2.2.1⟩) (Codec.pair ci64 (Codec.pair cd326 (Codec.pair cd326 Codec.unit)))
def cd330 : Codec Ty api_IVState := Codec.iso (fun x => (x.Index, x.Updating, x.Since, ())) (fun p => ⟨p.1, p.2.1, p.2.2.1⟩) (Codec.pair cu32 (Codec.pair cbo (Codec.pair ci64 Codec.unit)))
def cd336 : Codec Ty api_Transport := Codec.iso (fun x => (x.Out, x.In, ())) (fun p => ⟨p.1, p.2.1⟩) (Codec.pair (Codec.list 389 10 (fun (a : api_Outgoing) => .agg (cd388.encV a)) : Codec Ty (List (Ty 389))) (Codec.pair (Codec.list 391 11 (fun (a : api_Incoming) => .agg (cd390.encV a)) : Codec Ty (List (Ty 391))) Codec.unit))
def cd339 : Codec Ty api_Friend := Codec.iso (fun x => (x.Low, x.Queue, x.Subs, x.Bit, x.Sent, x.Polled, x.Counter, x.Dropped, ())) (fun p => ⟨p.1, p.2.1, p.2.2.1, p.2.2.2.1, p.2.2.2.2.1, p.2.2.2.2.2.1, p.2.2.2.2.2.2.1, p.2.2.2.2.2.2.2.1⟩) (Codec.pair cu16 (Codec.pair (Codec.list 397 18 (fun (a : api_Queued) => .agg (cd396.encV a)) : Codec Ty (List (Ty 397))) (Codec.pair (Codec.list 41 1 (fun (a : Int) => cu16.oneV a) : Codec Ty (List (Ty 41))) (Codec.pair ci64 (Codec.pair cbo (Codec.pair ci64 (Codec.pair ci64 (Codec.pair ci64 Codec.unit))))))))
def cd341 : Codec Ty api_LowPower := Codec.iso (fun x => (x.Phase, x.Friend, x.Bit, x.Counter, x.Due, x.Tries, x.Subs, x.Told, x.More, x.Last, ())) (fun p => ⟨p.1, p.2.1, p.2.2.1, p.2.2.2.1, p.2.2.2.2.1, p.2.2.2.2.2.1, p.2.2.2.2.2.2.1, p.2.2.2.2.2.2.2.1, p.2.2.2.2.2.2.2.2.1, p.2.2.2.2.2.2.2.2.2.1⟩) (Codec.pair ci64 (Codec.pair cu16 (Codec.pair ci64 (Codec.pair ci64 (Codec.pair ci64 (Codec.pair ci64 (Codec.pair (Codec.list 41 1 (fun (a : Int) => cu16.oneV a) : Codec Ty (List (Ty 41))) (Codec.pair ci64 (Codec.pair cbo (Codec.pair ci64 Codec.unit))))))))))
def cd344 : Codec Ty api_Node := Codec.iso (fun x => (x.Address, x.Device, x.App, x.Keys, x.IV, x.Seq, x.Relay, x.Befriends, x.Groups, x.Cache, x.Replays, x.Transport, x.Friend, x.Low, x.Out, x.Stored, x.Up, ())) (fun p => ⟨p.1, p.2.1, p.2.2.1, p.2.2.2.1, p.2.2.2.2.1, p.2.2.2.2.2.1, p.2.2.2.2.2.2.1, p.2.2.2.2.2.2.2.1, p.2.2.2.2.2.2.2.2.1, p.2.2.2.2.2.2.2.2.2.1, p.2.2.2.2.2.2.2.2.2.2.1, p.2.2.2.2.2.2.2.2.2.2.2.1, p.2.2.2.2.2.2.2.2.2.2.2.2.1, p.2.2.2.2.2.2.2.2.2.2.2.2.2.1, p.2.2.2.2.2.2.2.2.2.2.2.2.2.2.1, p.2.2.2.2.2.2.2.2.2.2.2.2.2.2.2.1, p.2.2.2.2.2.2.2.2.2.2.2.2.2.2.2.2.1⟩) (Codec.pair cu16 (Codec.pair cu64 (Codec.pair cu64 (Codec.pair cd328 (Codec.pair cd330 (Codec.pair cu32 (Codec.pair cbo (Codec.pair cbo (Codec.pair (Codec.list 41 1 (fun (a : Int) => cu16.oneV a) : Codec Ty (List (Ty 41))) (Codec.pair (Codec.list 82 3 (fun (a : api_SeqID) => .agg (cd81.encV a)) : Codec Ty (List (Ty 82))) (Codec.pair (Codec.list 387 3 (fun (a : api_SeqID) => .agg (cd81.encV a)) : Codec Ty (List (Ty 387))) (Codec.pair cd336 (Codec.pair cd339 (Codec.pair cd341 (Codec.pair (Codec.list 399 3 (fun (a : api_Timed) => .agg (cd398.encV a)) : Codec Ty (List (Ty 399))) (Codec.pair cu32 (Codec.pair cbo Codec.unit)))))))))))))))))
def cd69 : Codec Ty api_Fault := Codec.iso (fun x => (x.Kind, x.Device, x.Conn, ())) (fun p => ⟨p.1, p.2.1, p.2.2.1⟩) (Codec.pair ci64 (Codec.pair ci64 (Codec.pair ci64 Codec.unit)))
def cd346 : Codec Ty api_Pair := Codec.iso (fun x => (x.A, x.B, ())) (fun p => ⟨p.1, p.2.1⟩) (Codec.pair ci64 (Codec.pair ci64 Codec.unit))
def cd348 : Codec Ty api_Loss := Codec.iso (fun x => (x.ID, x.To, ())) (fun p => ⟨p.1, p.2.1⟩) (Codec.pair ci64 (Codec.pair ci64 Codec.unit))
def cd350 : Codec Ty api_Hop := Codec.iso (fun x => (x.From, x.To, x.Due, x.Bytes, ())) (fun p => ⟨p.1, p.2.1, p.2.2.1, p.2.2.2.1⟩) (Codec.pair ci64 (Codec.pair ci64 (Codec.pair ci64 (Codec.pair (Codec.list 5 1 (fun (a : Int) => cu8.oneV a) : Codec Ty (List (Ty 5))) Codec.unit))))
def cd28 : Codec Ty api_Mesh := Codec.iso (fun x => (x.Nodes, x.Links, x.Losses, x.Count, x.Now, x.Flight, x.Notes, ())) (fun p => ⟨p.1, p.2.1, p.2.2.1, p.2.2.2.1, p.2.2.2.2.1, p.2.2.2.2.2.1, p.2.2.2.2.2.2.1⟩) (Codec.pair (Codec.list 345 46 (fun (a : api_Node) => .agg (cd344.encV a)) : Codec Ty (List (Ty 345))) (Codec.pair (Codec.list 347 2 (fun (a : api_Pair) => .agg (cd346.encV a)) : Codec Ty (List (Ty 347))) (Codec.pair (Codec.list 349 2 (fun (a : api_Loss) => .agg (cd348.encV a)) : Codec Ty (List (Ty 349))) (Codec.pair ci64 (Codec.pair ci64 (Codec.pair (Codec.list 351 4 (fun (a : api_Hop) => .agg (cd350.encV a)) : Codec Ty (List (Ty 351))) (Codec.pair (Codec.list 88 13 (fun (a : api_MeshNote) => .agg (cd87.encV a)) : Codec Ty (List (Ty 88))) Codec.unit)))))))
@[reducible] def U : Univ where
  Ty := Ty
  esz := fun t => match t with
    | 4 => 1
    | 3 => 1
    | 5 => 1
    | 88 => 13
    | 22 => 1
    | 41 => 1
    | 82 => 3
    | 387 => 3
    | 65 => 1
    | 389 => 10
    | 391 => 11
    | 397 => 18
    | 399 => 3
    | 345 => 46
    | 70 => 3
    | 31 => 1
    | 9 => 1
    | 102 => 1
    | 347 => 2
    | 349 => 2
    | 351 => 4
    | 29 => 7
    | _ => 0
  enc := fun t => match t with
    | 4 => fun (a : Bool) => cbo.oneV a
    | 3 => fun (a : Int) => ci64.oneV a
    | 5 => fun (a : Int) => cu8.oneV a
    | 88 => fun (a : api_MeshNote) => .agg (cd87.encV a)
    | 22 => fun (a : List api_MeshNote) => ((Codec.list 88 13 (fun (a : api_MeshNote) => .agg (cd87.encV a)) : Codec Ty (List (Ty 88)))).oneV a
    | 41 => fun (a : Int) => cu16.oneV a
    | 82 => fun (a : api_SeqID) => .agg (cd81.encV a)
    | 387 => fun (a : api_SeqID) => .agg (cd81.encV a)
    | 65 => fun (a : List Int) => ((Codec.list 5 1 (fun (a : Int) => cu8.oneV a) : Codec Ty (List (Ty 5)))).oneV a
    | 389 => fun (a : api_Outgoing) => .agg (cd388.encV a)
    | 391 => fun (a : api_Incoming) => .agg (cd390.encV a)
    | 397 => fun (a : api_Queued) => .agg (cd396.encV a)
    | 399 => fun (a : api_Timed) => .agg (cd398.encV a)
    | 345 => fun (a : api_Node) => .agg (cd344.encV a)
    | 70 => fun (a : api_Fault) => .agg (cd69.encV a)
    | 31 => fun (a : List api_Fault) => ((Codec.list 70 3 (fun (a : api_Fault) => .agg (cd69.encV a)) : Codec Ty (List (Ty 70)))).oneV a
    | 9 => fun (a : ByteArray) => cst.oneV a
    | 102 => fun (a : List ByteArray) => ((Codec.list 9 1 (fun (a : ByteArray) => cst.oneV a) : Codec Ty (List (Ty 9)))).oneV a
    | 347 => fun (a : api_Pair) => .agg (cd346.encV a)
    | 349 => fun (a : api_Loss) => .agg (cd348.encV a)
    | 351 => fun (a : api_Hop) => .agg (cd350.encV a)
    | 29 => fun (a : api_Mesh) => .agg (cd28.encV a)
    | _ => fun _ => .no
  encS := fun t => match t with
    | 4 => fun (a : Bool) => cbo.oneS a
    | 3 => fun (a : Int) => ci64.oneS a
    | 5 => fun (a : Int) => cu8.oneS a
    | 88 => fun (a : api_MeshNote) => .agg (cd87.encS a)
    | 22 => fun (a : List api_MeshNote) => ((Codec.list 88 13 (fun (a : api_MeshNote) => .agg (cd87.encV a)) : Codec Ty (List (Ty 88)))).oneS a
    | 41 => fun (a : Int) => cu16.oneS a
    | 82 => fun (a : api_SeqID) => .agg (cd81.encS a)
    | 387 => fun (a : api_SeqID) => .agg (cd81.encS a)
    | 65 => fun (a : List Int) => ((Codec.list 5 1 (fun (a : Int) => cu8.oneV a) : Codec Ty (List (Ty 5)))).oneS a
    | 389 => fun (a : api_Outgoing) => .agg (cd388.encS a)
    | 391 => fun (a : api_Incoming) => .agg (cd390.encS a)
    | 397 => fun (a : api_Queued) => .agg (cd396.encS a)
    | 399 => fun (a : api_Timed) => .agg (cd398.encS a)
    | 345 => fun (a : api_Node) => .agg (cd344.encS a)
    | 70 => fun (a : api_Fault) => .agg (cd69.encS a)
    | 31 => fun (a : List api_Fault) => ((Codec.list 70 3 (fun (a : api_Fault) => .agg (cd69.encV a)) : Codec Ty (List (Ty 70)))).oneS a
    | 9 => fun (a : ByteArray) => cst.oneS a
    | 102 => fun (a : List ByteArray) => ((Codec.list 9 1 (fun (a : ByteArray) => cst.oneV a) : Codec Ty (List (Ty 9)))).oneS a
    | 347 => fun (a : api_Pair) => .agg (cd346.encS a)
    | 349 => fun (a : api_Loss) => .agg (cd348.encS a)
    | 351 => fun (a : api_Hop) => .agg (cd350.encS a)
    | 29 => fun (a : api_Mesh) => .agg (cd28.encS a)
    | _ => fun _ => .no
  decS := fun t => match t with
    | 4 => fun v => cbo.one v
    | 3 => fun v => ci64.one v
    | 5 => fun v => cu8.one v
    | 88 => fun v => cd87.agg v
    | 22 => fun v => ((Codec.list 88 13 (fun (a : api_MeshNote) => .agg (cd87.encV a)) : Codec Ty (List (Ty 88)))).one v
    | 41 => fun v => cu16.one v
    | 82 => fun v => cd81.agg v
    | 387 => fun v => cd81.agg v
    | 65 => fun v => ((Codec.list 5 1 (fun (a : Int) => cu8.oneV a) : Codec Ty (List (Ty 5)))).one v
    | 389 => fun v => cd388.agg v
    | 391 => fun v => cd390.agg v
    | 397 => fun v => cd396.agg v
    | 399 => fun v => cd398.agg v
    | 345 => fun v => cd344.agg v
    | 70 => fun v => cd69.agg v
    | 31 => fun v => ((Codec.list 70 3 (fun (a : api_Fault) => .agg (cd69.encV a)) : Codec Ty (List (Ty 70)))).one v
    | 9 => fun v => cst.one v
    | 102 => fun v => ((Codec.list 9 1 (fun (a : ByteArray) => cst.oneV a) : Codec Ty (List (Ty 9)))).one v
    | 347 => fun v => cd346.agg v
    | 349 => fun v => cd348.agg v
    | 351 => fun v => cd350.agg v
    | 29 => fun v => cd28.agg v
    | _ => fun _ => none
  keys := [4, 3, 5, 88, 22, 41, 82, 387, 65, 389, 391, 397, 399, 345, 70, 31, 9, 102, 347, 349, 351, 29]
theorem cdok81 : CodecOK U cd81 [0, 0, 0] := CodecOK.iso ((CodecOK.int _).pair ((CodecOK.int _).pair ((CodecOK.int _).pair CodecOK.unit))) (fun _ => rfl) (fun _ => rfl)
theorem cdok83 : CodecOK U cd83 [0, 0, 0, 0, 0, 0, 0, 1] := CodecOK.iso ((CodecOK.int _).pair ((CodecOK.int _).pair ((CodecOK.bool).pair ((CodecOK.int _).pair ((cdok81).pair ((CodecOK.list (U := U) (t := 5) (n := 1) (e := fun (a : Int) => cu8.oneV a) (fun _ => rfl) rfl (fun a => (CodecOK.int _ : CodecOK U cu8 _).oneNr a) (fun a b h => (CodecOK.int _ : CodecOK U cu8 _).oneInj h)).pair CodecOK.unit)))))) (fun _ => rfl) (fun _ => rfl)
theorem cdok85 : CodecOK U cd85 [0, 0, 0, 0, 0, 0, 0, 0, 1, 0, 0] := CodecOK.iso ((CodecOK.int _).pair ((cdok83).pair ((CodecOK.int _).pair ((CodecOK.int _).pair CodecOK.unit)))) (fun _ => rfl) (fun _ => rfl)
theorem cdok87 : CodecOK U cd87 [0, 0, 0, 0, 0, 0, 0, 0, 0, 0, 1, 0, 0] := CodecOK.iso ((CodecOK.int _).pair ((CodecOK.int _).pair ((cdok85).pair CodecOK.unit))) (fun _ => rfl) (fun _ => rfl)
theorem cdok388 : CodecOK U cd388 [0, 0, 0, 0, 0, 1, 0, 0, 0, 0] := CodecOK.iso ((CodecOK.int _).pair ((CodecOK.int _).pair ((CodecOK.bool).pair ((CodecOK.int _).pair ((CodecOK.int _).pair ((CodecOK.list (U := U) (t := 65) (n := 1) (e := fun (a : List Int) => ((Codec.list 5 1 (fun (a : Int) => cu8.oneV a) : Codec Ty (List (Ty 5)))).oneV a) (fun _ => rfl) rfl (fun a => (CodecOK.list (U := U) (t := 5) (n := 1) (e := fun (a : Int) => cu8.oneV a) (fun _ => rfl) rfl (fun a => (CodecOK.int _ : CodecOK U cu8 _).oneNr a) (fun a b h => (CodecOK.int _ : CodecOK U cu8 _).oneInj h) : CodecOK U (Codec.list 5 1 (fun (a : Int) => cu8.oneV a) : Codec Ty (List (Ty 5))) _).oneNr a) (fun a b h => (CodecOK.list (U := U) (t := 5) (n := 1) (e := fun (a : Int) => cu8.oneV a) (fun _ => rfl) rfl (fun a => (CodecOK.int _ : CodecOK U cu8 _).oneNr a) (fun a b h => (CodecOK.int _ : CodecOK U cu8 _).oneInj h) : CodecOK U (Codec.list 5 1 (fun (a : Int) => cu8.oneV a) : Codec Ty (List (Ty 5))) _).oneInj h)).pair ((CodecOK.int _).pair ((CodecOK.int _).pair ((CodecOK.int _).pair ((CodecOK.int _).pair CodecOK.unit)))))))))) (fun _ => rfl) (fun _ => rfl)
theorem cdok390 : CodecOK U cd390 [0, 0, 0, 0, 0, 0, 1, 0, 0, 0, 0] := CodecOK.iso ((CodecOK.int _).pair ((CodecOK.int _).pair ((CodecOK.bool).pair ((CodecOK.int _).pair ((CodecOK.int _).pair ((CodecOK.int _).pair ((CodecOK.list (U := U) (t := 65) (n := 1) (e := fun (a : List Int) => ((Codec.list 5 1 (fun (a : Int) => cu8.oneV a) : Codec Ty (List (Ty 5)))).oneV a) (fun _ => rfl) rfl (fun a => (CodecOK.list (U := U) (t := 5) (n := 1) (e := fun (a : Int) => cu8.oneV a) (fun _ => rfl) rfl (fun a => (CodecOK.int _ : CodecOK U cu8 _).oneNr a) (fun a b h => (CodecOK.int _ : CodecOK U cu8 _).oneInj h) : CodecOK U (Codec.list 5 1 (fun (a : Int) => cu8.oneV a) : Codec Ty (List (Ty 5))) _).oneNr a) (fun a b h => (CodecOK.list (U := U) (t := 5) (n := 1) (e := fun (a : Int) => cu8.oneV a) (fun _ => rfl) rfl (fun a => (CodecOK.int _ : CodecOK U cu8 _).oneNr a) (fun a b h => (CodecOK.int _ : CodecOK U cu8 _).oneInj h) : CodecOK U (Codec.list 5 1 (fun (a : Int) => cu8.oneV a) : Codec Ty (List (Ty 5))) _).oneInj h)).pair ((CodecOK.int _).pair ((CodecOK.int _).pair ((CodecOK.int _).pair ((CodecOK.bool).pair CodecOK.unit))))))))))) (fun _ => rfl) (fun _ => rfl)
theorem cdok392 : CodecOK U cd392 [0, 0, 0, 0, 0, 0, 0, 1] := CodecOK.iso ((CodecOK.int _).pair ((CodecOK.int _).pair ((CodecOK.bool).pair ((CodecOK.int _).pair ((CodecOK.int _).pair ((CodecOK.int _).pair ((CodecOK.int _).pair ((CodecOK.list (U := U) (t := 5) (n := 1) (e := fun (a : Int) => cu8.oneV a) (fun _ => rfl) rfl (fun a => (CodecOK.int _ : CodecOK U cu8 _).oneNr a) (fun a b h => (CodecOK.int _ : CodecOK U cu8 _).oneInj h)).pair CodecOK.unit)))))))) (fun _ => rfl) (fun _ => rfl)
theorem cdok394 : CodecOK U cd394 [0, 0, 0, 0, 0, 0, 0, 0, 0, 1] := CodecOK.iso ((CodecOK.bool).pair ((CodecOK.bool).pair ((CodecOK.bool).pair ((CodecOK.int _).pair ((CodecOK.int _).pair ((CodecOK.int _).pair ((CodecOK.int _).pair ((CodecOK.int _).pair ((CodecOK.bool).pair ((CodecOK.list (U := U) (t := 5) (n := 1) (e := fun (a : Int) => cu8.oneV a) (fun _ => rfl) rfl (fun a => (CodecOK.int _ : CodecOK U cu8 _).oneNr a) (fun a b h => (CodecOK.int _ : CodecOK U cu8 _).oneInj h)).pair CodecOK.unit)))))))))) (fun _ => rfl) (fun _ => rfl)
theorem cdok396 : CodecOK U cd396 [0, 0, 0, 0, 0, 0, 0, 1, 0, 0, 0, 0, 0, 0, 0, 0, 0, 1] := CodecOK.iso ((cdok392).pair ((cdok394).pair CodecOK.unit)) (fun _ => rfl) (fun _ => rfl)
theorem cdok398 : CodecOK U cd398 [0, 1, 0] := CodecOK.iso ((CodecOK.int _).pair ((CodecOK.list (U := U) (t := 5) (n := 1) (e := fun (a : Int) => cu8.oneV a) (fun _ => rfl) rfl (fun a => (CodecOK.int _ : CodecOK U cu8 _).oneNr a) (fun a b h => (CodecOK.int _ : CodecOK U cu8 _).oneInj h)).pair ((CodecOK.int _).pair CodecOK.unit))) (fun _ => rfl) (fun _ => rfl)
theorem cdok326 : CodecOK U cd326 [0, 0, 0, 0, 0] := CodecOK.iso ((CodecOK.int _).pair ((CodecOK.int _).pair ((CodecOK.int _).pair ((CodecOK.int _).pair ((CodecOK.int _).pair CodecOK.unit))))) (fun _ => rfl) (fun _ => rfl)
theorem cdok328 : CodecOK U cd328 [0, 0, 0, 0, 0, 0, 0, 0, 0, 0, 0] := CodecOK.iso ((CodecOK.int _).pair ((cdok326).pair ((cdok326).pair CodecOK.unit))) (fun _ => rfl) (fun _ => rfl)
theorem cdok330 : CodecOK U cd330 [0, 0, 0] := CodecOK.iso ((CodecOK.int _).pair ((CodecOK.bool).pair ((CodecOK.int _).pair CodecOK.unit))) (fun _ => rfl) (fun _ => rfl)
theorem cdok336 : CodecOK U cd336 [10, 11] := CodecOK.iso ((CodecOK.list (U := U) (t := 389) (n := 10) (e := fun (a : api_Outgoing) => .agg (cd388.encV a)) (fun _ => rfl) rfl (fun a => cdok388.nr a) (fun a b h => cdok388.inj _ _ (by injection h))).pair ((CodecOK.list (U := U) (t := 391) (n := 11) (e := fun (a : api_Incoming) => .agg (cd390.encV a)) (fun _ => rfl) rfl (fun a => cdok390.nr a) (fun a b h => cdok390.inj _ _ (by injection h))).pair CodecOK.unit)) (fun _ => rfl) (fun _ => rfl)
theorem cdok339 : CodecOK U cd339 [0, 18, 1, 0, 0, 0, 0, 0] := CodecOK.iso ((CodecOK.int _).pair ((CodecOK.list (U := U) (t := 397) (n := 18) (e := fun (a : api_Queued) => .agg (cd396.encV a)) (fun _ => rfl) rfl (fun a => cdok396.nr a) (fun a b h => cdok396.inj _ _ (by injection h))).pair ((CodecOK.list (U := U) (t := 41) (n := 1) (e := fun (a : Int) => cu16.oneV a) (fun _ => rfl) rfl (fun a => (CodecOK.int _ : CodecOK U cu16 _).oneNr a) (fun a b h => (CodecOK.int _ : CodecOK U cu16 _).oneInj h)).pair ((CodecOK.int _).pair ((CodecOK.bool).pair ((CodecOK.int _).pair ((CodecOK.int _).pair ((CodecOK.int _).pair CodecOK.unit)))))))) (fun _ => rfl) (fun _ => rfl)
theorem cdok341 : CodecOK U cd341 [0, 0, 0, 0, 0, 0, 1, 0, 0, 0] := CodecOK.iso ((CodecOK.int _).pair ((CodecOK.int _).pair ((CodecOK.int _).pair ((CodecOK.int _).pair ((CodecOK.int _).pair ((CodecOK.int _).pair ((CodecOK.list (U := U) (t := 41) (n := 1) (e := fun (a : Int) => cu16.oneV a) (fun _ => rfl) rfl (fun a => (CodecOK.int _ : CodecOK U cu16 _).oneNr a) (fun a b h => (CodecOK.int _ : CodecOK U cu16 _).oneInj h)).pair ((CodecOK.int _).pair ((CodecOK.bool).pair ((CodecOK.int _).pair CodecOK.unit)))))))))) (fun _ => rfl) (fun _ => rfl)
theorem cdok344 : CodecOK U cd344 [0, 0, 0, 0, 0, 0, 0, 0, 0, 0, 0, 0, 0, 0, 0, 0, 0, 0, 0, 0, 1, 3, 3, 10, 11, 0, 18, 1, 0, 0, 0, 0, 0, 0, 0, 0, 0, 0, 0, 1, 0, 0, 0, 3, 0, 0] := CodecOK.iso ((CodecOK.int _).pair ((CodecOK.int _).pair ((CodecOK.int _).pair ((cdok328).pair ((cdok330).pair ((CodecOK.int _).pair ((CodecOK.bool).pair ((CodecOK.bool).pair ((CodecOK.list (U := U) (t := 41) (n := 1) (e := fun (a : Int) => cu16.oneV a) (fun _ => rfl) rfl (fun a => (CodecOK.int _ : CodecOK U cu16 _).oneNr a) (fun a b h => (CodecOK.int _ : CodecOK U cu16 _).oneInj h)).pair ((CodecOK.list (U := U) (t := 82) (n := 3) (e := fun (a : api_SeqID) => .agg (cd81.encV a)) (fun _ => rfl) rfl (fun a => cdok81.nr a) (fun a b h => cdok81.inj _ _ (by injection h))).pair ((CodecOK.list (U := U) (t := 387) (n := 3) (e := fun (a : api_SeqID) => .agg (cd81.encV a)) (fun _ => rfl) rfl (fun a => cdok81.nr a) (fun a b h => cdok81.inj _ _ (by injection h))).pair ((cdok336).pair ((cdok339).pair ((cdok341).pair ((CodecOK.list (U := U) (t := 399) (n := 3) (e := fun (a : api_Timed) => .agg (cd398.encV a)) (fun _ => rfl) rfl (fun a => cdok398.nr a) (fun a b h => cdok398.inj _ _ (by injection h))).pair ((CodecOK.int _).pair ((CodecOK.bool).pair CodecOK.unit))))))))))))))))) (fun _ => rfl) (fun _ => rfl)
theorem cdok69 : CodecOK U cd69 [0, 0, 0] := CodecOK.iso ((CodecOK.int _).pair ((CodecOK.int _).pair ((CodecOK.int _).pair CodecOK.unit))) (fun _ => rfl) (fun _ => rfl)
theorem cdok346 : CodecOK U cd346 [0, 0] := CodecOK.iso ((CodecOK.int _).pair ((CodecOK.int _).pair CodecOK.unit)) (fun _ => rfl) (fun _ => rfl)
theorem cdok348 : CodecOK U cd348 [0, 0] := CodecOK.iso ((CodecOK.int _).pair ((CodecOK.int _).pair CodecOK.unit)) (fun _ => rfl) (fun _ => rfl)
theorem cdok350 : CodecOK U cd350 [0, 0, 0, 1] := CodecOK.iso ((CodecOK.int _).pair ((CodecOK.int _).pair ((CodecOK.int _).pair ((CodecOK.list (U := U) (t := 5) (n := 1) (e := fun (a : Int) => cu8.oneV a) (fun _ => rfl) rfl (fun a => (CodecOK.int _ : CodecOK U cu8 _).oneNr a) (fun a b h => (CodecOK.int _ : CodecOK U cu8 _).oneInj h)).pair CodecOK.unit)))) (fun _ => rfl) (fun _ => rfl)
theorem cdok28 : CodecOK U cd28 [46, 2, 2, 0, 0, 4, 13] := CodecOK.iso ((CodecOK.list (U := U) (t := 345) (n := 46) (e := fun (a : api_Node) => .agg (cd344.encV a)) (fun _ => rfl) rfl (fun a => cdok344.nr a) (fun a b h => cdok344.inj _ _ (by injection h))).pair ((CodecOK.list (U := U) (t := 347) (n := 2) (e := fun (a : api_Pair) => .agg (cd346.encV a)) (fun _ => rfl) rfl (fun a => cdok346.nr a) (fun a b h => cdok346.inj _ _ (by injection h))).pair ((CodecOK.list (U := U) (t := 349) (n := 2) (e := fun (a : api_Loss) => .agg (cd348.encV a)) (fun _ => rfl) rfl (fun a => cdok348.nr a) (fun a b h => cdok348.inj _ _ (by injection h))).pair ((CodecOK.int _).pair ((CodecOK.int _).pair ((CodecOK.list (U := U) (t := 351) (n := 4) (e := fun (a : api_Hop) => .agg (cd350.encV a)) (fun _ => rfl) rfl (fun a => cdok350.nr a) (fun a b h => cdok350.inj _ _ (by injection h))).pair ((CodecOK.list (U := U) (t := 88) (n := 13) (e := fun (a : api_MeshNote) => .agg (cd87.encV a)) (fun _ => rfl) rfl (fun a => cdok87.nr a) (fun a b h => cdok87.inj _ _ (by injection h))).pair CodecOK.unit))))))) (fun _ => rfl) (fun _ => rfl)
theorem rows4 : rowsOf Tryz.prog 4 = [0] := by kernel_rfl
theorem tyok4 {E : Env} (hE : E.rows = rowsOf Tryz.prog) : TyOK U E 4 :=
  have c : CodecOK U cbo [0] := CodecOK.bool
  ⟨fun a => c.oneEnc a, fun v a h => by rw [hE, rows4]; exact c.one h (na_bool h), fun a => by first | rfl | exact (congrArg (fun x => [x]) (c.oneEnc a).symm), fun a => c.oneNr a, fun a b h => c.oneInj h⟩
theorem rows3 : rowsOf Tryz.prog 3 = [0] := by kernel_rfl
theorem tyok3 {E : Env} (hE : E.rows = rowsOf Tryz.prog) : TyOK U E 3 :=
  have c : CodecOK U ci64 [0] := CodecOK.int _
  ⟨fun a => c.oneEnc a, fun v a h => by rw [hE, rows3]; exact c.one h (na_int h), fun a => by first | rfl | exact (congrArg (fun x => [x]) (c.oneEnc a).symm), fun a => c.oneNr a, fun a b h => c.oneInj h⟩
theorem rows5 : rowsOf Tryz.prog 5 = [0] := by kernel_rfl
theorem tyok5 {E : Env} (hE : E.rows = rowsOf Tryz.prog) : TyOK U E 5 :=
  have c : CodecOK U cu8 [0] := CodecOK.int _
  ⟨fun a => c.oneEnc a, fun v a h => by rw [hE, rows5]; exact c.one h (na_int h), fun a => by first | rfl | exact (congrArg (fun x => [x]) (c.oneEnc a).symm), fun a => c.oneNr a, fun a b h => c.oneInj h⟩
theorem rows88 : rowsOf Tryz.prog 88 = [0, 0, 0, 0, 0, 0, 0, 0, 0, 0, 1, 0, 0] := by kernel_rfl
theorem tyok88 {E : Env} (hE : E.rows = rowsOf Tryz.prog) : TyOK U E 88 := ⟨fun a => congrArg V.agg (cdok87.enc a), fun v a h => by rw [hE, rows88]; exact cdok87.agg h, fun a => (cdok87.enc a).symm, fun a => cdok87.nr a, fun a b h => cdok87.inj _ _ (by injection h)⟩
theorem rows22 : rowsOf Tryz.prog 22 = [13] := by kernel_rfl
theorem tyok22 {E : Env} (hE : E.rows = rowsOf Tryz.prog) : TyOK U E 22 :=
  have c : CodecOK U (Codec.list 88 13 (fun (a : api_MeshNote) => .agg (cd87.encV a)) : Codec Ty (List (Ty 88))) [13] := CodecOK.list (U := U) (t := 88) (n := 13) (e := fun (a : api_MeshNote) => .agg (cd87.encV a)) (fun _ => rfl) rfl (fun a => cdok87.nr a) (fun a b h => cdok87.inj _ _ (by injection h))
  ⟨fun a => c.oneEnc a, fun v a h => by rw [hE, rows22]; exact c.one h (na_list (U := U) (t := 88) (n := 13) (e := fun (a : api_MeshNote) => .agg (cd87.encV a)) h), fun a => by first | rfl | exact (congrArg (fun x => [x]) (c.oneEnc a).symm), fun a => c.oneNr a, fun a b h => c.oneInj h⟩
theorem rows41 : rowsOf Tryz.prog 41 = [0] := by kernel_rfl
theorem tyok41 {E : Env} (hE : E.rows = rowsOf Tryz.prog) : TyOK U E 41 :=
  have c : CodecOK U cu16 [0] := CodecOK.int _
  ⟨fun a => c.oneEnc a, fun v a h => by rw [hE, rows41]; exact c.one h (na_int h), fun a => by first | rfl | exact (congrArg (fun x => [x]) (c.oneEnc a).symm), fun a => c.oneNr a, fun a b h => c.oneInj h⟩
theorem rows82 : rowsOf Tryz.prog 82 = [0, 0, 0] := by kernel_rfl
theorem tyok82 {E : Env} (hE : E.rows = rowsOf Tryz.prog) : TyOK U E 82 := ⟨fun a => congrArg V.agg (cdok81.enc a), fun v a h => by rw [hE, rows82]; exact cdok81.agg h, fun a => (cdok81.enc a).symm, fun a => cdok81.nr a, fun a b h => cdok81.inj _ _ (by injection h)⟩
theorem rows387 : rowsOf Tryz.prog 387 = [0, 0, 0] := by kernel_rfl
theorem tyok387 {E : Env} (hE : E.rows = rowsOf Tryz.prog) : TyOK U E 387 := ⟨fun a => congrArg V.agg (cdok81.enc a), fun v a h => by rw [hE, rows387]; exact cdok81.agg h, fun a => (cdok81.enc a).symm, fun a => cdok81.nr a, fun a b h => cdok81.inj _ _ (by injection h)⟩
theorem rows65 : rowsOf Tryz.prog 65 = [1] := by kernel_rfl
theorem tyok65 {E : Env} (hE : E.rows = rowsOf Tryz.prog) : TyOK U E 65 :=
  have c : CodecOK U (Codec.list 5 1 (fun (a : Int) => cu8.oneV a) : Codec Ty (List (Ty 5))) [1] := CodecOK.list (U := U) (t := 5) (n := 1) (e := fun (a : Int) => cu8.oneV a) (fun _ => rfl) rfl (fun a => (CodecOK.int _ : CodecOK U cu8 _).oneNr a) (fun a b h => (CodecOK.int _ : CodecOK U cu8 _).oneInj h)
  ⟨fun a => c.oneEnc a, fun v a h => by rw [hE, rows65]; exact c.one h (na_list (U := U) (t := 5) (n := 1) (e := fun (a : Int) => cu8.oneV a) h), fun a => by first | rfl | exact (congrArg (fun x => [x]) (c.oneEnc a).symm), fun a => c.oneNr a, fun a b h => c.oneInj h⟩
theorem rows389 : rowsOf Tryz.prog 389 = [0, 0, 0, 0, 0, 1, 0, 0, 0, 0] := by kernel_rfl
theorem tyok389 {E : Env} (hE : E.rows = rowsOf Tryz.prog) : TyOK U E 389 := ⟨fun a => congrArg V.agg (cdok388.enc a), fun v a h => by rw [hE, rows389]; exact cdok388.agg h, fun a => (cdok388.enc a).symm, fun a => cdok388.nr a, fun a b h => cdok388.inj _ _ (by injection h)⟩
theorem rows391 : rowsOf Tryz.prog 391 = [0, 0, 0, 0, 0, 0, 1, 0, 0, 0, 0] := by kernel_rfl
theorem tyok391 {E : Env} (hE : E.rows = rowsOf Tryz.prog) : TyOK U E 391 := ⟨fun a => congrArg V.agg (cdok390.enc a), fun v a h => by rw [hE, rows391]; exact cdok390.agg h, fun a => (cdok390.enc a).symm, fun a => cdok390.nr a, fun a b h => cdok390.inj _ _ (by injection h)⟩
theorem rows397 : rowsOf Tryz.prog 397 = [0, 0, 0, 0, 0, 0, 0, 1, 0, 0, 0, 0, 0, 0, 0, 0, 0, 1] := by kernel_rfl
theorem tyok397 {E : Env} (hE : E.rows = rowsOf Tryz.prog) : TyOK U E 397 := ⟨fun a => congrArg V.agg (cdok396.enc a), fun v a h => by rw [hE, rows397]; exact cdok396.agg h, fun a => (cdok396.enc a).symm, fun a => cdok396.nr a, fun a b h => cdok396.inj _ _ (by injection h)⟩
theorem rows399 : rowsOf Tryz.prog 399 = [0, 1, 0] := by kernel_rfl
theorem tyok399 {E : Env} (hE : E.rows = rowsOf Tryz.prog) : TyOK U E 399 := ⟨fun a => congrArg V.agg (cdok398.enc a), fun v a h => by rw [hE, rows399]; exact cdok398.agg h, fun a => (cdok398.enc a).symm, fun a => cdok398.nr a, fun a b h => cdok398.inj _ _ (by injection h)⟩
theorem rows345 : rowsOf Tryz.prog 345 = [0, 0, 0, 0, 0, 0, 0, 0, 0, 0, 0, 0, 0, 0, 0, 0, 0, 0, 0, 0, 1, 3, 3, 10, 11, 0, 18, 1, 0, 0, 0, 0, 0, 0, 0, 0, 0, 0, 0, 1, 0, 0, 0, 3, 0, 0] := by kernel_rfl
theorem tyok345 {E : Env} (hE : E.rows = rowsOf Tryz.prog) : TyOK U E 345 := ⟨fun a => congrArg V.agg (cdok344.enc a), fun v a h => by rw [hE, rows345]; exact cdok344.agg h, fun a => (cdok344.enc a).symm, fun a => cdok344.nr a, fun a b h => cdok344.inj _ _ (by injection h)⟩
theorem rows70 : rowsOf Tryz.prog 70 = [0, 0, 0] := by kernel_rfl
theorem tyok70 {E : Env} (hE : E.rows = rowsOf Tryz.prog) : TyOK U E 70 := ⟨fun a => congrArg V.agg (cdok69.enc a), fun v a h => by rw [hE, rows70]; exact cdok69.agg h, fun a => (cdok69.enc a).symm, fun a => cdok69.nr a, fun a b h => cdok69.inj _ _ (by injection h)⟩
theorem rows31 : rowsOf Tryz.prog 31 = [3] := by kernel_rfl
theorem tyok31 {E : Env} (hE : E.rows = rowsOf Tryz.prog) : TyOK U E 31 :=
  have c : CodecOK U (Codec.list 70 3 (fun (a : api_Fault) => .agg (cd69.encV a)) : Codec Ty (List (Ty 70))) [3] := CodecOK.list (U := U) (t := 70) (n := 3) (e := fun (a : api_Fault) => .agg (cd69.encV a)) (fun _ => rfl) rfl (fun a => cdok69.nr a) (fun a b h => cdok69.inj _ _ (by injection h))
  ⟨fun a => c.oneEnc a, fun v a h => by rw [hE, rows31]; exact c.one h (na_list (U := U) (t := 70) (n := 3) (e := fun (a : api_Fault) => .agg (cd69.encV a)) h), fun a => by first | rfl | exact (congrArg (fun x => [x]) (c.oneEnc a).symm), fun a => c.oneNr a, fun a b h => c.oneInj h⟩
theorem rows9 : rowsOf Tryz.prog 9 = [0] := by kernel_rfl
theorem tyok9 {E : Env} (hE : E.rows = rowsOf Tryz.prog) : TyOK U E 9 :=
  have c : CodecOK U cst [0] := CodecOK.str
  ⟨fun a => c.oneEnc a, fun v a h => by rw [hE, rows9]; exact c.one h (na_str h), fun a => by first | rfl | exact (congrArg (fun x => [x]) (c.oneEnc a).symm), fun a => c.oneNr a, fun a b h => c.oneInj h⟩
theorem rows102 : rowsOf Tryz.prog 102 = [1] := by kernel_rfl
theorem tyok102 {E : Env} (hE : E.rows = rowsOf Tryz.prog) : TyOK U E 102 :=
  have c : CodecOK U (Codec.list 9 1 (fun (a : ByteArray) => cst.oneV a) : Codec Ty (List (Ty 9))) [1] := CodecOK.list (U := U) (t := 9) (n := 1) (e := fun (a : ByteArray) => cst.oneV a) (fun _ => rfl) rfl (fun a => (CodecOK.str : CodecOK U cst _).oneNr a) (fun a b h => (CodecOK.str : CodecOK U cst _).oneInj h)
  ⟨fun a => c.oneEnc a, fun v a h => by rw [hE, rows102]; exact c.one h (na_list (U := U) (t := 9) (n := 1) (e := fun (a : ByteArray) => cst.oneV a) h), fun a => by first | rfl | exact (congrArg (fun x => [x]) (c.oneEnc a).symm), fun a => c.oneNr a, fun a b h => c.oneInj h⟩
theorem rows347 : rowsOf Tryz.prog 347 = [0, 0] := by kernel_rfl
theorem tyok347 {E : Env} (hE : E.rows = rowsOf Tryz.prog) : TyOK U E 347 := ⟨fun a => congrArg V.agg (cdok346.enc a), fun v a h => by rw [hE, rows347]; exact cdok346.agg h, fun a => (cdok346.enc a).symm, fun a => cdok346.nr a, fun a b h => cdok346.inj _ _ (by injection h)⟩
theorem rows349 : rowsOf Tryz.prog 349 = [0, 0] := by kernel_rfl
theorem tyok349 {E : Env} (hE : E.rows = rowsOf Tryz.prog) : TyOK U E 349 := ⟨fun a => congrArg V.agg (cdok348.enc a), fun v a h => by rw [hE, rows349]; exact cdok348.agg h, fun a => (cdok348.enc a).symm, fun a => cdok348.nr a, fun a b h => cdok348.inj _ _ (by injection h)⟩
theorem rows351 : rowsOf Tryz.prog 351 = [0, 0, 0, 1] := by kernel_rfl
theorem tyok351 {E : Env} (hE : E.rows = rowsOf Tryz.prog) : TyOK U E 351 := ⟨fun a => congrArg V.agg (cdok350.enc a), fun v a h => by rw [hE, rows351]; exact cdok350.agg h, fun a => (cdok350.enc a).symm, fun a => cdok350.nr a, fun a b h => cdok350.inj _ _ (by injection h)⟩
theorem rows29 : rowsOf Tryz.prog 29 = [46, 2, 2, 0, 0, 4, 13] := by kernel_rfl
theorem tyok29 {E : Env} (hE : E.rows = rowsOf Tryz.prog) : TyOK U E 29 := ⟨fun a => congrArg V.agg (cdok28.enc a), fun v a h => by rw [hE, rows29]; exact cdok28.agg h, fun a => (cdok28.enc a).symm, fun a => cdok28.nr a, fun a b h => cdok28.inj _ _ (by injection h)⟩
theorem ty_empty (t : Nat) (h4 : ¬ t = 4) (h3 : ¬ t = 3) (h5 : ¬ t = 5) (h88 : ¬ t = 88) (h22 : ¬ t = 22) (h41 : ¬ t = 41) (h82 : ¬ t = 82) (h387 : ¬ t = 387) (h65 : ¬ t = 65) (h389 : ¬ t = 389) (h391 : ¬ t = 391) (h397 : ¬ t = 397) (h399 : ¬ t = 399) (h345 : ¬ t = 345) (h70 : ¬ t = 70) (h31 : ¬ t = 31) (h9 : ¬ t = 9) (h102 : ¬ t = 102) (h347 : ¬ t = 347) (h349 : ¬ t = 349) (h351 : ¬ t = 351) (h29 : ¬ t = 29) (h1402 : ¬ t = 1402) (a : Ty t) : False := by
  unfold Ty at a
  split at a <;> first | contradiction | exact a.elim
theorem TyOK.four {E : Env} {t : Nat} (h : TyOK U E t) : (∀ a, toV U (U.encS t a) = U.enc t a) ∧ (∀ v a, U.decS t v = some a → retype (E.rows t) (toV U v) = U.enc t a) ∧ (∀ a, (U.enc t a).cells = toVs U (cellsS (U.encS t a))) ∧ (∀ a, noRef (U.enc t a) = true) := ⟨h.encS, h.dec, h.cells, h.nr⟩
theorem univ_t (E : Env) (hE : E.rows = rowsOf Tryz.prog) (t : Nat) : (∀ a, toV U (U.encS t a) = U.enc t a) ∧ (∀ v a, U.decS t v = some a → retype (E.rows t) (toV U v) = U.enc t a) ∧ (∀ a, (U.enc t a).cells = toVs U (cellsS (U.encS t a))) ∧ (∀ a, noRef (U.enc t a) = true) := by
  by_cases h4 : t = 4
  · subst h4; exact TyOK.four (tyok4 hE)
  by_cases h3 : t = 3
  · subst h3; exact TyOK.four (tyok3 hE)
  by_cases h5 : t = 5
  · subst h5; exact TyOK.four (tyok5 hE)
  by_cases h88 : t = 88
  · subst h88; exact TyOK.four (tyok88 hE)
  by_cases h22 : t = 22
  · subst h22; exact TyOK.four (tyok22 hE)
  by_cases h41 : t = 41
  · subst h41; exact TyOK.four (tyok41 hE)
  by_cases h82 : t = 82
  · subst h82; exact TyOK.four (tyok82 hE)
  by_cases h387 : t = 387
  · subst h387; exact TyOK.four (tyok387 hE)
  by_cases h65 : t = 65
  · subst h65; exact TyOK.four (tyok65 hE)
  by_cases h389 : t = 389
  · subst h389; exact TyOK.four (tyok389 hE)
  by_cases h391 : t = 391
  · subst h391; exact TyOK.four (tyok391 hE)
  by_cases h397 : t = 397
  · subst h397; exact TyOK.four (tyok397 hE)
  by_cases h399 : t = 399
  · subst h399; exact TyOK.four (tyok399 hE)
  by_cases h345 : t = 345
  · subst h345; exact TyOK.four (tyok345 hE)
  by_cases h70 : t = 70
  · subst h70; exact TyOK.four (tyok70 hE)
  by_cases h31 : t = 31
  · subst h31; exact TyOK.four (tyok31 hE)
  by_cases h9 : t = 9
  · subst h9; exact TyOK.four (tyok9 hE)
  by_cases h102 : t = 102
  · subst h102; exact TyOK.four (tyok102 hE)
  by_cases h347 : t = 347
  · subst h347; exact TyOK.four (tyok347 hE)
  by_cases h349 : t = 349
  · subst h349; exact TyOK.four (tyok349 hE)
  by_cases h351 : t = 351
  · subst h351; exact TyOK.four (tyok351 hE)
  by_cases h29 : t = 29
  · subst h29; exact TyOK.four (tyok29 hE)
  by_cases h1402 : t = 1402
  · subst h1402; exact ⟨fun a => rfl, (fun v a h => nomatch h), fun a => rfl, fun a => rfl⟩
  have e := fun a => ty_empty t h4 h3 h5 h88 h22 h41 h82 h387 h65 h389 h391 h397 h399 h345 h70 h31 h9 h102 h347 h349 h351 h29 h1402 a
  exact ⟨fun a => (e a).elim, fun v a h => (e a).elim, fun a => (e a).elim, fun a => (e a).elim⟩
theorem univ_ok (E : Env) (hE : E.rows = rowsOf Tryz.prog) : UnivOK U E := by
  refine ⟨fun t => (univ_t E hE t).1, fun t => (univ_t E hE t).2.1, fun t => (univ_t E hE t).2.2.1, fun t => (univ_t E hE t).2.2.2, ?_⟩
  · intro t ht
    by_cases h4 : t = 4
    · subst h4; exact (tyok4 hE).inj
    by_cases h3 : t = 3
    · subst h3; exact (tyok3 hE).inj
    by_cases h5 : t = 5
    · subst h5; exact (tyok5 hE).inj
    by_cases h88 : t = 88
    · subst h88; exact (tyok88 hE).inj
    by_cases h22 : t = 22
    · subst h22; exact (tyok22 hE).inj
    by_cases h41 : t = 41
    · subst h41; exact (tyok41 hE).inj
    by_cases h82 : t = 82
    · subst h82; exact (tyok82 hE).inj
    by_cases h387 : t = 387
    · subst h387; exact (tyok387 hE).inj
    by_cases h65 : t = 65
    · subst h65; exact (tyok65 hE).inj
    by_cases h389 : t = 389
    · subst h389; exact (tyok389 hE).inj
    by_cases h391 : t = 391
    · subst h391; exact (tyok391 hE).inj
    by_cases h397 : t = 397
    · subst h397; exact (tyok397 hE).inj
    by_cases h399 : t = 399
    · subst h399; exact (tyok399 hE).inj
    by_cases h345 : t = 345
    · subst h345; exact (tyok345 hE).inj
    by_cases h70 : t = 70
    · subst h70; exact (tyok70 hE).inj
    by_cases h31 : t = 31
    · subst h31; exact (tyok31 hE).inj
    by_cases h9 : t = 9
    · subst h9; exact (tyok9 hE).inj
    by_cases h102 : t = 102
    · subst h102; exact (tyok102 hE).inj
    by_cases h347 : t = 347
    · subst h347; exact (tyok347 hE).inj
    by_cases h349 : t = 349
    · subst h349; exact (tyok349 hE).inj
    by_cases h351 : t = 351
    · subst h351; exact (tyok351 hE).inj
    by_cases h29 : t = 29
    · subst h29; exact (tyok29 hE).inj
    exact absurd ht (by simp [h4, h3, h5, h88, h22, h41, h82, h387, h65, h389, h391, h397, h399, h345, h70, h31, h9, h102, h347, h349, h351, h29])

noncomputable def gl : Nat → Option (List V) := fun _ => none

theorem mix_ok : Tryz.prog.follows .mixedOrders = true := by kernel_rfl
noncomputable def noH : FuncId → List FuncId → Option (HMod U) := fun _ _ => none
noncomputable def B0 : Env := EV (U := U) Tryz.prog gl 0 (fun _ => none) noH

abbrev MS := {ms : FuncId → Option (Mod U) // ∀ g m, ms g = some m → FnOK Tryz.prog B0 g m}
abbrev HS := {hs : FuncId → List FuncId → Option (HMod U) // ∀ g k m, hs g k = some m → HFnOK Tryz.prog B0 g m}
noncomputable def msN : MS := ⟨fun _ => none, fun _ _ h => nomatch h⟩
noncomputable def hsN : HS := ⟨fun _ _ => none, fun _ _ _ h => nomatch h⟩
noncomputable def mc {f : FuncId} {m : Mod U} (h : FnOK Tryz.prog B0 f m) (s : MS) : MS := ⟨fun g => bif Nat.beq g f then some m else s.1 g, fun g m' e => by
  cases hb : Nat.beq g f with
  | true => dsimp only at e; rw [hb] at e; cases e; exact (Nat.eq_of_beq_eq_true hb) ▸ h
  | false => dsimp only at e; rw [hb] at e; exact s.2 g m' e⟩
noncomputable def hc {f : FuncId} {m : HMod U} (k : List FuncId) (h : HFnOK Tryz.prog B0 f m) (s : HS) : HS := ⟨fun g k' => bif Nat.beq g f && k' == k then some m else s.1 g k', fun g k' m' e => by
  cases hb : (Nat.beq g f && k' == k) with
  | true => dsimp only at e; rw [hb] at e; cases e; exact (Nat.eq_of_beq_eq_true ((Bool.and_eq_true _ _).mp hb).1) ▸ h
  | false => dsimp only at e; rw [hb] at e; exact s.2 g k' m' e⟩
def AN : Nat → Option Lay := fun _ => none
noncomputable def entP (fn : Func) (ts : List Nat) (x : Args U ts) : Spot U := ⟨bodyOf fn, [], entryS ts x fn.ntmps, false⟩
noncomputable def entH (fn : Func) (sh : Shape) (x : sh.X U) : Spot U := ⟨bodyOf fn, [], entryH (sh.enc x) fn.ntmps, false⟩
noncomputable def spL (fn : Func) (p : List Nat) (L : Lay) (x : L.sh.X U) : Spot U := spot (bodyOf fn) p fn.ntmps L.keep (L.sh.enc x)
abbrev BlkP (f : FuncId) (fn : Func) (ms : MS) (hs : HS) (A : Nat → Option Lay) (rt : Nat) {Pt : Type} (T : Pt → Tr U (U.Ty rt ⊕ Pt)) (sp : Pt → Spot U) : Prop :=
  ∀ p, Le.runL (EV Tryz.prog gl f ms.1 hs.1) (mdlOf ms.1 hs.1) A f fn 0 (doneP (EV Tryz.prog gl f ms.1 hs.1) fn) 1000 (.run (sp p).c) (sp p).K (sp p).st (sp p).sk = (T p).map (leafOf (outP (U := U) rt) sp)
abbrev BlkH (f : FuncId) (fn : Func) (ms : MS) (hs : HS) (A : Nat → Option Lay) (fa : List (List Fk)) (fb : List Bf) (k : Nat) (m : HMod U) {Pt : Type} (T : Pt → Tr U (U.Ty m.ky ⊕ Pt)) (sp : Pt → Spot U) : Prop :=
  ∀ p, Le.runL (EV Tryz.prog gl f ms.1 hs.1) (mdlOf ms.1 hs.1) A f fn k (doneX (EV Tryz.prog gl f ms.1 hs.1) fn fa fb k m.sout m.one) 1000 (.run (sp p).c) (sp p).K (sp p).st (sp p).sk = (T p).map (leafOf m.out sp)
theorem okP {f : FuncId} {fn : Func} {ms : MS} {hs : HS} {A : Nat → Option Lay} {m : Mod U} {Pt : Type} {T : Pt → Tr U (U.Ty m.rt ⊕ Pt)} {sp : Pt → Spot U} (h : BlkP f fn ms hs A m.rt T sp) (b0 : Args U m.ts → Pt)
    (hc : calmC (EV Tryz.prog gl f ms.1 hs.1) f (bodyOf fn) = true) (hfn : Tryz.prog.funcs[f]? = some fn) (hn : (fn.name == "runtime.NumGoroutine") = false) (hb : fn.body = some (bodyOf fn))
    (hm : ∀ x, m.fn x = flow T (b0 x)) (hsp : ∀ x, sp (b0 x) = entP fn m.ts x) : FnOK Tryz.prog B0 f m :=
  fn_flowL rfl (univ_ok _ rfl) mix_ok ms.2 hs.2 hfn hn hb hc m T sp h b0 hm hsp
theorem okH {f : FuncId} {fn : Func} {ms : MS} {hs : HS} {A : Nat → Option Lay} {fa : List (List Fk)} {fb : List Bf} {k : Nat} {m : HMod U} {Pt : Type} {T : Pt → Tr U (U.Ty m.ky ⊕ Pt)} {sp : Pt → Spot U} (h : BlkH f fn ms hs A fa fb k m T sp) (b0 : m.sin.X U → Pt)
    (hk : ∀ x : m.sin.X U, (m.sin.enc x).2.length = k) (hc : calmC (EV Tryz.prog gl f ms.1 hs.1) f (bodyOf fn) = true) (hfn : Tryz.prog.funcs[f]? = some fn) (hn : (fn.name == "runtime.NumGoroutine") = false) (hb : fn.body = some (bodyOf fn))
    (hm : ∀ x : m.sin.X U, m.fn x = flow T (b0 x)) (hsp : ∀ x : m.sin.X U, sp (b0 x) = entH fn m.sin x) : HFnOK Tryz.prog B0 f m :=
  hfn_flowL rfl (univ_ok _ rfl) mix_ok ms.2 hs.2 hfn hn hb hc m hk T sp h b0 hm hsp
abbrev k0 : List Fk := [.keep, .keep, .keep, .keep, .keep, .keep, .keep, .keep, .keep, .keep, .s 5 1, .keep, .keep]
end Go.Proofs.YtkepnndakhpgoaaGreatDoor
