/-
  The program's types as types of Lean (printed by a program of mine).
-/
import Derived.Test.YtpikcdlhgiooaaaGreatL6
import Derived.Test.YtpikcdlhgiooaaaGreatProg
import Derived.KernelRfl
namespace Go.Proofs.YtpikcdlhgiooaaaGreat
open Go Go.Proofs.YtpikcdlhgiooaaaGreat.Le
set_option linter.unusedVariables false
set_option maxRecDepth 100000
noncomputable section
structure api_NetKey where
  Key : Int
  NID : Int
  Encrypt : Int
  Hide : Int
  Beacon : Int
@[reducible] def z_api_NetKey : api_NetKey := ⟨(0 : Int), (0 : Int), (0 : Int), (0 : Int), (0 : Int)⟩
structure api_KeyState where
  Phase : Int
  Old : api_NetKey
  New : api_NetKey
@[reducible] def z_api_KeyState : api_KeyState := ⟨(0 : Int), z_api_NetKey, z_api_NetKey⟩
structure api_IVState where
  Index : Int
  Updating : Bool
  Since : Int
@[reducible] def z_api_IVState : api_IVState := ⟨(0 : Int), false, (0 : Int)⟩
structure api_SeqID where
  Src : Int
  IV : Int
  Seq : Int
@[reducible] def z_api_SeqID : api_SeqID := ⟨(0 : Int), (0 : Int), (0 : Int)⟩
structure api_Outgoing where
  Dst : Int
  Src : Int
  App : Bool
  Zero : Int
  IV : Int
  Parts : List (List Int)
  Acked : Int
  Due : Int
  Tries : Int
  TTL : Int
@[reducible] def z_api_Outgoing : api_Outgoing := ⟨(0 : Int), (0 : Int), false, (0 : Int), (0 : Int), [], (0 : Int), (0 : Int), (0 : Int), (0 : Int)⟩
structure api_Incoming where
  Src : Int
  Dst : Int
  App : Bool
  Zero : Int
  IV : Int
  Last : Int
  Parts : List (List Int)
  Block : Int
  Due : Int
  TTL : Int
  Done : Bool
@[reducible] def z_api_Incoming : api_Incoming := ⟨(0 : Int), (0 : Int), false, (0 : Int), (0 : Int), (0 : Int), [], (0 : Int), (0 : Int), (0 : Int), false⟩
structure api_Transport where
  Out : List api_Outgoing
  In : List api_Incoming
structure api_NetPDU where
  IV : Int
  NID : Int
  Control : Bool
  TTL : Int
  Seq : Int
  Src : Int
  Dst : Int
  Payload : List Int
@[reducible] def z_api_NetPDU : api_NetPDU := ⟨(0 : Int), (0 : Int), false, (0 : Int), (0 : Int), (0 : Int), (0 : Int), []⟩
structure api_Lower where
  Control : Bool
  Segmented : Bool
  App : Bool
  Zero : Int
  Index : Int
  Last : Int
  Opcode : Int
  Block : Int
  Friend : Bool
  Bytes : List Int
@[reducible] def z_api_Lower : api_Lower := ⟨false, false, false, (0 : Int), (0 : Int), (0 : Int), (0 : Int), (0 : Int), false, []⟩
structure api_Queued where
  PDU : api_NetPDU
  Lower : api_Lower
structure api_Friend where
  Low : Int
  Queue : List api_Queued
  Subs : List Int
  Bit : Int
  Sent : Bool
  Polled : Int
  Counter : Int
  Dropped : Int
@[reducible] def z_api_Friend : api_Friend := ⟨(0 : Int), [], [], (0 : Int), false, (0 : Int), (0 : Int), (0 : Int)⟩
structure api_LowPower where
  Phase : Int
  Friend : Int
  Bit : Int
  Counter : Int
  Due : Int
  Tries : Int
  Subs : List Int
  Told : Int
  More : Bool
  Last : Int
@[reducible] def z_api_LowPower : api_LowPower := ⟨(0 : Int), (0 : Int), (0 : Int), (0 : Int), (0 : Int), (0 : Int), [], (0 : Int), false, (0 : Int)⟩
structure api_Timed where
  Due : Int
  Bytes : List Int
  To : Int
@[reducible] def z_api_Timed : api_Timed := ⟨(0 : Int), [], (0 : Int)⟩
structure api_Node where
  Address : Int
  Device : Int
  App : Int
  Keys : api_KeyState
  IV : api_IVState
  Seq : Int
  Relay : Bool
  Befriends : Bool
  Groups : List Int
  Cache : List api_SeqID
  Replays : List api_SeqID
  Transport : api_Transport
  Friend : api_Friend
  Low : api_LowPower
  Out : List api_Timed
  Stored : Int
  Up : Bool
@[reducible] def z_api_Node : api_Node := ⟨(0 : Int), (0 : Int), (0 : Int), z_api_KeyState, z_api_IVState, (0 : Int), false, false, [], [], [], (⟨[], []⟩ : api_Transport), z_api_Friend, z_api_LowPower, [], (0 : Int), false⟩
structure api_Pair where
  A : Int
  B : Int
structure api_Loss where
  ID : Int
  To : Int
structure api_Hop where
  From : Int
  To : Int
  Due : Int
  Bytes : List Int
@[reducible] def z_api_Hop : api_Hop := ⟨(0 : Int), (0 : Int), (0 : Int), []⟩
structure api_Access where
  Src : Int
  Dst : Int
  App : Bool
  TTL : Int
  Seq : api_SeqID
  Bytes : List Int
@[reducible] def z_api_Access : api_Access := ⟨(0 : Int), (0 : Int), false, (0 : Int), z_api_SeqID, []⟩
structure api_MeshEvent where
  Kind : Int
  Access : api_Access
  Peer : Int
  Number : Int
@[reducible] def z_api_MeshEvent : api_MeshEvent := ⟨(0 : Int), z_api_Access, (0 : Int), (0 : Int)⟩
structure api_MeshNote where
  Node : Int
  Time : Int
  Event : api_MeshEvent
@[reducible] def z_api_MeshNote : api_MeshNote := ⟨(0 : Int), (0 : Int), z_api_MeshEvent⟩
structure api_Mesh where
  Nodes : List api_Node
  Links : List api_Pair
  Losses : List api_Loss
  Count : Int
  Now : Int
  Flight : List api_Hop
  Notes : List api_MeshNote
@[reducible] def z_api_Mesh : api_Mesh := ⟨[], [], [], (0 : Int), (0 : Int), [], []⟩
structure wirelesslaw54_Plan where
  Relays : List Bool
  Friends : List Bool
  Links : List api_Pair
  Losses : List api_Loss
@[reducible] def z_wirelesslaw54_Plan : wirelesslaw54_Plan := ⟨[], [], [], []⟩
structure block_halves where
  x0 : Int
  x1 : Int
structure Y_slices_Clone_Node where
  q0 : List api_Node
structure Y_slices_Clone_Pair where
  q0 : List api_Pair
structure Y_slices_Clone_Loss where
  q0 : List api_Loss
structure Y_slices_Clone_Hop where
  q0 : List api_Hop
structure Y_slices_Clone_byte where
  q0 : List Int
structure Y_slices_Clone_MeshNote where
  q0 : List api_MeshNote
structure Y_slices_Clone_uint16 where
  q0 : List Int
structure Y_slices_Clone_SeqID where
  q0 : List api_SeqID
structure Y_slices_Clone_Replay where
  q0 : List api_SeqID
structure Y_slices_Clone_Outgoing where
  q0 : List api_Outgoing
structure Y_slices_Clone_Incoming where
  q0 : List api_Incoming
structure Y_slices_Clone_Queued where
  q0 : List api_Queued
structure Y_slices_Clone_Timed where
  q0 : List api_Timed
structure Y_slices_Clone_byte_byte where
  q0 : List (List Int)
@[reducible] def Ty : Nat → Type
  | 1392 => Y_slices_Clone_Node
  | 1393 => Y_slices_Clone_Pair
  | 1394 => Y_slices_Clone_Loss
  | 1395 => Y_slices_Clone_Hop
  | 1396 => Y_slices_Clone_byte
  | 1397 => Y_slices_Clone_MeshNote
  | 1398 => Y_slices_Clone_uint16
  | 1399 => Y_slices_Clone_SeqID
  | 1400 => Y_slices_Clone_Replay
  | 1401 => Y_slices_Clone_Outgoing
  | 1402 => Y_slices_Clone_Incoming
  | 1403 => Y_slices_Clone_Queued
  | 1404 => Y_slices_Clone_Timed
  | 1405 => Y_slices_Clone_byte_byte
  | 4 => Bool
  | 5 => Int
  | 35 => Int
  | 82 => api_SeqID
  | 83 => api_SeqID
  | 92 => List Int
  | 134 => api_Outgoing
  | 137 => api_Incoming
  | 143 => api_Queued
  | 123 => api_Timed
  | 59 => api_Node
  | 90 => api_Pair
  | 117 => api_Loss
  | 109 => api_Hop
  | 103 => api_MeshNote
  | 31 => api_Mesh
  | 32 => Int
  | 33 => api_Mesh × api_Mesh × Int × Bool
  | 22 => List Bool
  | 23 => List api_Pair
  | 24 => List api_Loss
  | 27 => List api_Node
  | 3 => Int
  | 57 => List api_Timed
  | 101 => api_MeshEvent
  | 62 => List api_MeshEvent
  | 63 => api_Node × (List api_Timed) × (List api_MeshEvent)
  | 26 => wirelesslaw54_Plan
  | 45 => List Int
  | 51 => api_Transport
  | 132 => List (List Int)
  | 54 => api_Friend
  | 141 => api_Lower
  | 56 => api_LowPower
  | 36 => Int
  | 37 => Int
  | 323 => block_halves
  | 42 => Int
  | 28 => List api_Hop
  | 29 => List api_MeshNote
  | 46 => List api_SeqID
  | 47 => List api_SeqID
  | 48 => List api_Outgoing
  | 49 => List api_Incoming
  | 52 => List api_Queued
  | _ => Empty
abbrev cu8 : Codec Ty Int := Codec.int .u8
abbrev cu16 : Codec Ty Int := Codec.int .u16
abbrev cu32 : Codec Ty Int := Codec.int .u32
abbrev cu64 : Codec Ty Int := Codec.int .u64
abbrev ci64 : Codec Ty Int := Codec.int .i64
abbrev cbo : Codec Ty Bool := Codec.bool
abbrev cst : Codec Ty ByteArray := Codec.str
def cd81 : Codec Ty api_SeqID := Codec.iso (fun x => (x.Src, x.IV, x.Seq, ())) (fun p => ⟨p.1, p.2.1, p.2.2.1⟩) (Codec.pair cu16 (Codec.pair cu32 (Codec.pair cu32 Codec.unit)))
def cd133 : Codec Ty api_Outgoing := Codec.iso (fun x => (x.Dst, x.Src, x.App, x.Zero, x.IV, x.Parts, x.Acked, x.Due, x.Tries, x.TTL, ())) (fun p => ⟨p.1, p.2.1, p.2.2.1, p.2.2.2.1, p.2.2.2.2.1, p.2.2.2.2.2.1, p.2.2.2.2.2.2.1, p.2.2.2.2.2.2.2.1, p.2.2.2.2.2.2.2.2.1, p.2.2.2.2.2.2.2.2.2.1⟩) (Codec.pair cu16 (Codec.pair cu16 (Codec.pair cbo (Codec.pair cu32 (Codec.pair cu32 (Codec.pair (Codec.list 92 1 (fun (a : List Int) => ((Codec.list 5 1 (fun (a : Int) => cu8.oneV a) : Codec Ty (List (Ty 5)))).oneV a) : Codec Ty (List (Ty 92))) (Codec.pair cu32 (Codec.pair ci64 (Codec.pair ci64 (Codec.pair ci64 Codec.unit))))))))))
def cd136 : Codec Ty api_Incoming := Codec.iso (fun x => (x.Src, x.Dst, x.App, x.Zero, x.IV, x.Last, x.Parts, x.Block, x.Due, x.TTL, x.Done, ())) (fun p => ⟨p.1, p.2.1, p.2.2.1, p.2.2.2.1, p.2.2.2.2.1, p.2.2.2.2.2.1, p.2.2.2.2.2.2.1, p.2.2.2.2.2.2.2.1, p.2.2.2.2.2.2.2.2.1, p.2.2.2.2.2.2.2.2.2.1, p.2.2.2.2.2.2.2.2.2.2.1⟩) (Codec.pair cu16 (Codec.pair cu16 (Codec.pair cbo (Codec.pair cu32 (Codec.pair cu32 (Codec.pair ci64 (Codec.pair (Codec.list 92 1 (fun (a : List Int) => ((Codec.list 5 1 (fun (a : Int) => cu8.oneV a) : Codec Ty (List (Ty 5)))).oneV a) : Codec Ty (List (Ty 92))) (Codec.pair cu32 (Codec.pair ci64 (Codec.pair ci64 (Codec.pair cbo Codec.unit)))))))))))
def cd138 : Codec Ty api_NetPDU := Codec.iso (fun x => (x.IV, x.NID, x.Control, x.TTL, x.Seq, x.Src, x.Dst, x.Payload, ())) (fun p => ⟨p.1, p.2.1, p.2.2.1, p.2.2.2.1, p.2.2.2.2.1, p.2.2.2.2.2.1, p.2.2.2.2.2.2.1, p.2.2.2.2.2.2.2.1⟩) (Codec.pair cu32 (Codec.pair ci64 (Codec.pair cbo (Codec.pair ci64 (Codec.pair cu32 (Codec.pair cu16 (Codec.pair cu16 (Codec.pair (Codec.list 5 1 (fun (a : Int) => cu8.oneV a) : Codec Ty (List (Ty 5))) Codec.unit))))))))
def cd140 : Codec Ty api_Lower := Codec.iso (fun x => (x.Control, x.Segmented, x.App, x.Zero, x.Index, x.Last, x.Opcode, x.Block, x.Friend, x.Bytes, ())) (fun p => ⟨p.1, p.2.1, p.2.2.1, p.2.2.2.1, p.2.2.2.2.1, p.2.2.2.2.2.1, p.2.2.2.2.2.2.1, p.2.2.2.2.2.2.2.1, p.2.2.2.2.2.2.2.2.1, p.2.2.2.2.2.2.2.2.2.1⟩) (Codec.pair cbo (Codec.pair cbo (Codec.pair cbo (Codec.pair ci64 (Codec.pair ci64 (Codec.pair ci64 (Codec.pair ci64 (Codec.pair cu32 (Codec.pair cbo (Codec.pair (Codec.list 5 1 (fun (a : Int) => cu8.oneV a) : Codec Ty (List (Ty 5))) Codec.unit))))))))))
def cd142 : Codec Ty api_Queued := Codec.iso (fun x => (x.PDU, x.Lower, ())) (fun p => ⟨p.1, p.2.1⟩) (Codec.pair cd138 (Codec.pair cd140 Codec.unit))
def cd122 : Codec Ty api_Timed := Codec.iso (fun x => (x.Due, x.Bytes, x.To, ())) (fun p => ⟨p.1, p.2.1, p.2.2.1⟩) (Codec.pair ci64 (Codec.pair (Codec.list 5 1 (fun (a : Int) => cu8.oneV a) : Codec Ty (List (Ty 5))) (Codec.pair cu16 Codec.unit)))
def cd38 : Codec Ty api_NetKey := Codec.iso (fun x => (x.Key, x.NID, x.Encrypt, x.Hide, x.Beacon, ())) (fun p => ⟨p.1, p.2.1, p.2.2.1, p.2.2.2.1, p.2.2.2.2.1⟩) (Codec.pair cu64 (Codec.pair ci64 (Codec.pair cu64 (Codec.pair cu64 (Codec.pair cu64 Codec.unit)))))
def cd40 : Codec Ty api_KeyState := Codec.iso (fun x => (x.Phase, x.Old, x.New, ())) (fun p => ⟨p.1, p.2.1, p.2.2.1⟩) (Codec.pair ci64 (Codec.pair cd38 (Codec.pair cd38 Codec.unit)))
def cd43 : Codec Ty api_IVState := Codec.iso (fun x => (x.Index, x.Updating, x.Since, ())) (fun p => ⟨p.1, p.2.1, p.2.2.1⟩) (Codec.pair cu32 (Codec.pair cbo (Codec.pair ci64 Codec.unit)))
def cd50 : Codec Ty api_Transport := Codec.iso (fun x => (x.Out, x.In, ())) (fun p => ⟨p.1, p.2.1⟩) (Codec.pair (Codec.list 134 10 (fun (a : api_Outgoing) => .agg (cd133.encV a)) : Codec Ty (List (Ty 134))) (Codec.pair (Codec.list 137 11 (fun (a : api_Incoming) => .agg (cd136.encV a)) : Codec Ty (List (Ty 137))) Codec.unit))
def cd53 : Codec Ty api_Friend := Codec.iso (fun x => (x.Low, x.Queue, x.Subs, x.Bit, x.Sent, x.Polled, x.Counter, x.Dropped, ())) (fun p => ⟨p.1, p.2.1, p.2.2.1, p.2.2.2.1, p.2.2.2.2.1, p.2.2.2.2.2.1, p.2.2.2.2.2.2.1, p.2.2.2.2.2.2.2.1⟩) (Codec.pair cu16 (Codec.pair (Codec.list 143 18 (fun (a : api_Queued) => .agg (cd142.encV a)) : Codec Ty (List (Ty 143))) (Codec.pair (Codec.list 35 1 (fun (a : Int) => cu16.oneV a) : Codec Ty (List (Ty 35))) (Codec.pair ci64 (Codec.pair cbo (Codec.pair ci64 (Codec.pair ci64 (Codec.pair ci64 Codec.unit))))))))
def cd55 : Codec Ty api_LowPower := Codec.iso (fun x => (x.Phase, x.Friend, x.Bit, x.Counter, x.Due, x.Tries, x.Subs, x.Told, x.More, x.Last, ())) (fun p => ⟨p.1, p.2.1, p.2.2.1, p.2.2.2.1, p.2.2.2.2.1, p.2.2.2.2.2.1, p.2.2.2.2.2.2.1, p.2.2.2.2.2.2.2.1, p.2.2.2.2.2.2.2.2.1, p.2.2.2.2.2.2.2.2.2.1⟩) (Codec.pair ci64 (Codec.pair cu16 (Codec.pair ci64 (Codec.pair ci64 (Codec.pair ci64 (Codec.pair ci64 (Codec.pair (Codec.list 35 1 (fun (a : Int) => cu16.oneV a) : Codec Ty (List (Ty 35))) (Codec.pair ci64 (Codec.pair cbo (Codec.pair ci64 Codec.unit))))))))))
def cd58 : Codec Ty api_Node := Codec.iso (fun x => (x.Address, x.Device, x.App, x.Keys, x.IV, x.Seq, x.Relay, x.Befriends, x.Groups, x.Cache, x.Replays, x.Transport, x.Friend, x.Low, x.Out, x.Stored, x.Up, ())) (fun p => ⟨p.1, p.2.1, p.2.2.1, p.2.2.2.1, p.2.2.2.2.1, p.2.2.2.2.2.1, p.2.2.2.2.2.2.1, p.2.2.2.2.2.2.2.1, p.2.2.2.2.2.2.2.2.1, p.2.2.2.2.2.2.2.2.2.1, p.2.2.2.2.2.2.2.2.2.2.1, p.2.2.2.2.2.2.2.2.2.2.2.1, p.2.2.2.2.2.2.2.2.2.2.2.2.1, p.2.2.2.2.2.2.2.2.2.2.2.2.2.1, p.2.2.2.2.2.2.2.2.2.2.2.2.2.2.1, p.2.2.2.2.2.2.2.2.2.2.2.2.2.2.2.1, p.2.2.2.2.2.2.2.2.2.2.2.2.2.2.2.2.1⟩) (Codec.pair cu16 (Codec.pair cu64 (Codec.pair cu64 (Codec.pair cd40 (Codec.pair cd43 (Codec.pair cu32 (Codec.pair cbo (Codec.pair cbo (Codec.pair (Codec.list 35 1 (fun (a : Int) => cu16.oneV a) : Codec Ty (List (Ty 35))) (Codec.pair (Codec.list 82 3 (fun (a : api_SeqID) => .agg (cd81.encV a)) : Codec Ty (List (Ty 82))) (Codec.pair (Codec.list 83 3 (fun (a : api_SeqID) => .agg (cd81.encV a)) : Codec Ty (List (Ty 83))) (Codec.pair cd50 (Codec.pair cd53 (Codec.pair cd55 (Codec.pair (Codec.list 123 3 (fun (a : api_Timed) => .agg (cd122.encV a)) : Codec Ty (List (Ty 123))) (Codec.pair cu32 (Codec.pair cbo Codec.unit)))))))))))))))))
def cd89 : Codec Ty api_Pair := Codec.iso (fun x => (x.A, x.B, ())) (fun p => ⟨p.1, p.2.1⟩) (Codec.pair ci64 (Codec.pair ci64 Codec.unit))
def cd116 : Codec Ty api_Loss := Codec.iso (fun x => (x.ID, x.To, ())) (fun p => ⟨p.1, p.2.1⟩) (Codec.pair ci64 (Codec.pair ci64 Codec.unit))
def cd108 : Codec Ty api_Hop := Codec.iso (fun x => (x.From, x.To, x.Due, x.Bytes, ())) (fun p => ⟨p.1, p.2.1, p.2.2.1, p.2.2.2.1⟩) (Codec.pair ci64 (Codec.pair ci64 (Codec.pair ci64 (Codec.pair (Codec.list 5 1 (fun (a : Int) => cu8.oneV a) : Codec Ty (List (Ty 5))) Codec.unit))))
def cd98 : Codec Ty api_Access := Codec.iso (fun x => (x.Src, x.Dst, x.App, x.TTL, x.Seq, x.Bytes, ())) (fun p => ⟨p.1, p.2.1, p.2.2.1, p.2.2.2.1, p.2.2.2.2.1, p.2.2.2.2.2.1⟩) (Codec.pair cu16 (Codec.pair cu16 (Codec.pair cbo (Codec.pair ci64 (Codec.pair cd81 (Codec.pair (Codec.list 5 1 (fun (a : Int) => cu8.oneV a) : Codec Ty (List (Ty 5))) Codec.unit))))))
def cd100 : Codec Ty api_MeshEvent := Codec.iso (fun x => (x.Kind, x.Access, x.Peer, x.Number, ())) (fun p => ⟨p.1, p.2.1, p.2.2.1, p.2.2.2.1⟩) (Codec.pair ci64 (Codec.pair cd98 (Codec.pair cu16 (Codec.pair cu64 Codec.unit))))
def cd102 : Codec Ty api_MeshNote := Codec.iso (fun x => (x.Node, x.Time, x.Event, ())) (fun p => ⟨p.1, p.2.1, p.2.2.1⟩) (Codec.pair ci64 (Codec.pair ci64 (Codec.pair cd100 Codec.unit)))
def cd30 : Codec Ty api_Mesh := Codec.iso (fun x => (x.Nodes, x.Links, x.Losses, x.Count, x.Now, x.Flight, x.Notes, ())) (fun p => ⟨p.1, p.2.1, p.2.2.1, p.2.2.2.1, p.2.2.2.2.1, p.2.2.2.2.2.1, p.2.2.2.2.2.2.1⟩) (Codec.pair (Codec.list 59 46 (fun (a : api_Node) => .agg (cd58.encV a)) : Codec Ty (List (Ty 59))) (Codec.pair (Codec.list 90 2 (fun (a : api_Pair) => .agg (cd89.encV a)) : Codec Ty (List (Ty 90))) (Codec.pair (Codec.list 117 2 (fun (a : api_Loss) => .agg (cd116.encV a)) : Codec Ty (List (Ty 117))) (Codec.pair ci64 (Codec.pair ci64 (Codec.pair (Codec.list 109 4 (fun (a : api_Hop) => .agg (cd108.encV a)) : Codec Ty (List (Ty 109))) (Codec.pair (Codec.list 103 13 (fun (a : api_MeshNote) => .agg (cd102.encV a)) : Codec Ty (List (Ty 103))) Codec.unit)))))))
def cd25 : Codec Ty wirelesslaw54_Plan := Codec.iso (fun x => (x.Relays, x.Friends, x.Links, x.Losses, ())) (fun p => ⟨p.1, p.2.1, p.2.2.1, p.2.2.2.1⟩) (Codec.pair (Codec.list 4 1 (fun (a : Bool) => cbo.oneV a) : Codec Ty (List (Ty 4))) (Codec.pair (Codec.list 4 1 (fun (a : Bool) => cbo.oneV a) : Codec Ty (List (Ty 4))) (Codec.pair (Codec.list 90 2 (fun (a : api_Pair) => .agg (cd89.encV a)) : Codec Ty (List (Ty 90))) (Codec.pair (Codec.list 117 2 (fun (a : api_Loss) => .agg (cd116.encV a)) : Codec Ty (List (Ty 117))) Codec.unit))))
def cd322 : Codec Ty block_halves := Codec.iso (fun x => (x.x0, x.x1, ())) (fun p => ⟨p.1, p.2.1⟩) (Codec.pair cu32 (Codec.pair cu32 Codec.unit))
@[reducible] def U : Univ where
  Ty := Ty
  esz := fun t => match t with
    | 4 => 1
    | 5 => 1
    | 35 => 1
    | 82 => 3
    | 83 => 3
    | 92 => 1
    | 134 => 10
    | 137 => 11
    | 143 => 18
    | 123 => 3
    | 59 => 46
    | 90 => 2
    | 117 => 2
    | 109 => 4
    | 103 => 13
    | 31 => 7
    | 32 => 1
    | 33 => 1
    | 22 => 1
    | 23 => 1
    | 24 => 1
    | 27 => 1
    | 3 => 1
    | 57 => 1
    | 101 => 11
    | 62 => 1
    | 63 => 1
    | 26 => 4
    | 45 => 1
    | 51 => 2
    | 132 => 1
    | 54 => 8
    | 141 => 10
    | 56 => 10
    | 36 => 1
    | 37 => 1
    | 323 => 2
    | 42 => 1
    | 28 => 1
    | 29 => 1
    | 46 => 1
    | 47 => 1
    | 48 => 1
    | 49 => 1
    | 52 => 1
    | _ => 0
  enc := fun t => match t with
    | 4 => fun (a : Bool) => cbo.oneV a
    | 5 => fun (a : Int) => cu8.oneV a
    | 35 => fun (a : Int) => cu16.oneV a
    | 82 => fun (a : api_SeqID) => .agg (cd81.encV a)
    | 83 => fun (a : api_SeqID) => .agg (cd81.encV a)
    | 92 => fun (a : List Int) => ((Codec.list 5 1 (fun (a : Int) => cu8.oneV a) : Codec Ty (List (Ty 5)))).oneV a
    | 134 => fun (a : api_Outgoing) => .agg (cd133.encV a)
    | 137 => fun (a : api_Incoming) => .agg (cd136.encV a)
    | 143 => fun (a : api_Queued) => .agg (cd142.encV a)
    | 123 => fun (a : api_Timed) => .agg (cd122.encV a)
    | 59 => fun (a : api_Node) => .agg (cd58.encV a)
    | 90 => fun (a : api_Pair) => .agg (cd89.encV a)
    | 117 => fun (a : api_Loss) => .agg (cd116.encV a)
    | 109 => fun (a : api_Hop) => .agg (cd108.encV a)
    | 103 => fun (a : api_MeshNote) => .agg (cd102.encV a)
    | 31 => fun (a : api_Mesh) => .agg (cd30.encV a)
    | 32 => fun (a : Int) => ci64.oneV a
    | 33 => fun (a : api_Mesh × api_Mesh × Int × Bool) => .tup [(.agg (cd30.encV a.1)), (.agg (cd30.encV a.2.1)), (ci64.oneV a.2.2.1), (cbo.oneV a.2.2.2)]
    | 22 => fun (a : List Bool) => ((Codec.list 4 1 (fun (a : Bool) => cbo.oneV a) : Codec Ty (List (Ty 4)))).oneV a
    | 23 => fun (a : List api_Pair) => ((Codec.list 90 2 (fun (a : api_Pair) => .agg (cd89.encV a)) : Codec Ty (List (Ty 90)))).oneV a
    | 24 => fun (a : List api_Loss) => ((Codec.list 117 2 (fun (a : api_Loss) => .agg (cd116.encV a)) : Codec Ty (List (Ty 117)))).oneV a
    | 27 => fun (a : List api_Node) => ((Codec.list 59 46 (fun (a : api_Node) => .agg (cd58.encV a)) : Codec Ty (List (Ty 59)))).oneV a
    | 3 => fun (a : Int) => ci64.oneV a
    | 57 => fun (a : List api_Timed) => ((Codec.list 123 3 (fun (a : api_Timed) => .agg (cd122.encV a)) : Codec Ty (List (Ty 123)))).oneV a
    | 101 => fun (a : api_MeshEvent) => .agg (cd100.encV a)
    | 62 => fun (a : List api_MeshEvent) => ((Codec.list 101 11 (fun (a : api_MeshEvent) => .agg (cd100.encV a)) : Codec Ty (List (Ty 101)))).oneV a
    | 63 => fun (a : api_Node × (List api_Timed) × (List api_MeshEvent)) => .tup [(.agg (cd58.encV a.1)), (((Codec.list 123 3 (fun (a : api_Timed) => .agg (cd122.encV a)) : Codec Ty (List (Ty 123)))).oneV a.2.1), (((Codec.list 101 11 (fun (a : api_MeshEvent) => .agg (cd100.encV a)) : Codec Ty (List (Ty 101)))).oneV a.2.2)]
    | 26 => fun (a : wirelesslaw54_Plan) => .agg (cd25.encV a)
    | 45 => fun (a : List Int) => ((Codec.list 35 1 (fun (a : Int) => cu16.oneV a) : Codec Ty (List (Ty 35)))).oneV a
    | 51 => fun (a : api_Transport) => .agg (cd50.encV a)
    | 132 => fun (a : List (List Int)) => ((Codec.list 92 1 (fun (a : List Int) => ((Codec.list 5 1 (fun (a : Int) => cu8.oneV a) : Codec Ty (List (Ty 5)))).oneV a) : Codec Ty (List (Ty 92)))).oneV a
    | 54 => fun (a : api_Friend) => .agg (cd53.encV a)
    | 141 => fun (a : api_Lower) => .agg (cd140.encV a)
    | 56 => fun (a : api_LowPower) => .agg (cd55.encV a)
    | 36 => fun (a : Int) => cu64.oneV a
    | 37 => fun (a : Int) => cu64.oneV a
    | 323 => fun (a : block_halves) => .agg (cd322.encV a)
    | 42 => fun (a : Int) => cu32.oneV a
    | 28 => fun (a : List api_Hop) => ((Codec.list 109 4 (fun (a : api_Hop) => .agg (cd108.encV a)) : Codec Ty (List (Ty 109)))).oneV a
    | 29 => fun (a : List api_MeshNote) => ((Codec.list 103 13 (fun (a : api_MeshNote) => .agg (cd102.encV a)) : Codec Ty (List (Ty 103)))).oneV a
    | 46 => fun (a : List api_SeqID) => ((Codec.list 82 3 (fun (a : api_SeqID) => .agg (cd81.encV a)) : Codec Ty (List (Ty 82)))).oneV a
    | 47 => fun (a : List api_SeqID) => ((Codec.list 83 3 (fun (a : api_SeqID) => .agg (cd81.encV a)) : Codec Ty (List (Ty 83)))).oneV a
    | 48 => fun (a : List api_Outgoing) => ((Codec.list 134 10 (fun (a : api_Outgoing) => .agg (cd133.encV a)) : Codec Ty (List (Ty 134)))).oneV a
    | 49 => fun (a : List api_Incoming) => ((Codec.list 137 11 (fun (a : api_Incoming) => .agg (cd136.encV a)) : Codec Ty (List (Ty 137)))).oneV a
    | 52 => fun (a : List api_Queued) => ((Codec.list 143 18 (fun (a : api_Queued) => .agg (cd142.encV a)) : Codec Ty (List (Ty 143)))).oneV a
    | _ => fun _ => .no
  encS := fun t => match t with
    | 4 => fun (a : Bool) => cbo.oneS a
    | 5 => fun (a : Int) => cu8.oneS a
    | 35 => fun (a : Int) => cu16.oneS a
    | 82 => fun (a : api_SeqID) => .agg (cd81.encS a)
    | 83 => fun (a : api_SeqID) => .agg (cd81.encS a)
    | 92 => fun (a : List Int) => ((Codec.list 5 1 (fun (a : Int) => cu8.oneV a) : Codec Ty (List (Ty 5)))).oneS a
    | 134 => fun (a : api_Outgoing) => .agg (cd133.encS a)
    | 137 => fun (a : api_Incoming) => .agg (cd136.encS a)
    | 143 => fun (a : api_Queued) => .agg (cd142.encS a)
    | 123 => fun (a : api_Timed) => .agg (cd122.encS a)
    | 59 => fun (a : api_Node) => .agg (cd58.encS a)
    | 90 => fun (a : api_Pair) => .agg (cd89.encS a)
    | 117 => fun (a : api_Loss) => .agg (cd116.encS a)
    | 109 => fun (a : api_Hop) => .agg (cd108.encS a)
    | 103 => fun (a : api_MeshNote) => .agg (cd102.encS a)
    | 31 => fun (a : api_Mesh) => .agg (cd30.encS a)
    | 32 => fun (a : Int) => ci64.oneS a
    | 33 => fun (a : api_Mesh × api_Mesh × Int × Bool) => .tup [(.agg (cd30.encS a.1)), (.agg (cd30.encS a.2.1)), (ci64.oneS a.2.2.1), (cbo.oneS a.2.2.2)]
    | 22 => fun (a : List Bool) => ((Codec.list 4 1 (fun (a : Bool) => cbo.oneV a) : Codec Ty (List (Ty 4)))).oneS a
    | 23 => fun (a : List api_Pair) => ((Codec.list 90 2 (fun (a : api_Pair) => .agg (cd89.encV a)) : Codec Ty (List (Ty 90)))).oneS a
    | 24 => fun (a : List api_Loss) => ((Codec.list 117 2 (fun (a : api_Loss) => .agg (cd116.encV a)) : Codec Ty (List (Ty 117)))).oneS a
    | 27 => fun (a : List api_Node) => ((Codec.list 59 46 (fun (a : api_Node) => .agg (cd58.encV a)) : Codec Ty (List (Ty 59)))).oneS a
    | 3 => fun (a : Int) => ci64.oneS a
    | 57 => fun (a : List api_Timed) => ((Codec.list 123 3 (fun (a : api_Timed) => .agg (cd122.encV a)) : Codec Ty (List (Ty 123)))).oneS a
    | 101 => fun (a : api_MeshEvent) => .agg (cd100.encS a)
    | 62 => fun (a : List api_MeshEvent) => ((Codec.list 101 11 (fun (a : api_MeshEvent) => .agg (cd100.encV a)) : Codec Ty (List (Ty 101)))).oneS a
    | 63 => fun (a : api_Node × (List api_Timed) × (List api_MeshEvent)) => .tup [(.agg (cd58.encS a.1)), (((Codec.list 123 3 (fun (a : api_Timed) => .agg (cd122.encV a)) : Codec Ty (List (Ty 123)))).oneS a.2.1), (((Codec.list 101 11 (fun (a : api_MeshEvent) => .agg (cd100.encV a)) : Codec Ty (List (Ty 101)))).oneS a.2.2)]
    | 26 => fun (a : wirelesslaw54_Plan) => .agg (cd25.encS a)
    | 45 => fun (a : List Int) => ((Codec.list 35 1 (fun (a : Int) => cu16.oneV a) : Codec Ty (List (Ty 35)))).oneS a
    | 51 => fun (a : api_Transport) => .agg (cd50.encS a)
    | 132 => fun (a : List (List Int)) => ((Codec.list 92 1 (fun (a : List Int) => ((Codec.list 5 1 (fun (a : Int) => cu8.oneV a) : Codec Ty (List (Ty 5)))).oneV a) : Codec Ty (List (Ty 92)))).oneS a
    | 54 => fun (a : api_Friend) => .agg (cd53.encS a)
    | 141 => fun (a : api_Lower) => .agg (cd140.encS a)
    | 56 => fun (a : api_LowPower) => .agg (cd55.encS a)
    | 36 => fun (a : Int) => cu64.oneS a
    | 37 => fun (a : Int) => cu64.oneS a
    | 323 => fun (a : block_halves) => .agg (cd322.encS a)
    | 42 => fun (a : Int) => cu32.oneS a
    | 28 => fun (a : List api_Hop) => ((Codec.list 109 4 (fun (a : api_Hop) => .agg (cd108.encV a)) : Codec Ty (List (Ty 109)))).oneS a
    | 29 => fun (a : List api_MeshNote) => ((Codec.list 103 13 (fun (a : api_MeshNote) => .agg (cd102.encV a)) : Codec Ty (List (Ty 103)))).oneS a
    | 46 => fun (a : List api_SeqID) => ((Codec.list 82 3 (fun (a : api_SeqID) => .agg (cd81.encV a)) : Codec Ty (List (Ty 82)))).oneS a
    | 47 => fun (a : List api_SeqID) => ((Codec.list 83 3 (fun (a : api_SeqID) => .agg (cd81.encV a)) : Codec Ty (List (Ty 83)))).oneS a
    | 48 => fun (a : List api_Outgoing) => ((Codec.list 134 10 (fun (a : api_Outgoing) => .agg (cd133.encV a)) : Codec Ty (List (Ty 134)))).oneS a
    | 49 => fun (a : List api_Incoming) => ((Codec.list 137 11 (fun (a : api_Incoming) => .agg (cd136.encV a)) : Codec Ty (List (Ty 137)))).oneS a
    | 52 => fun (a : List api_Queued) => ((Codec.list 143 18 (fun (a : api_Queued) => .agg (cd142.encV a)) : Codec Ty (List (Ty 143)))).oneS a
    | _ => fun _ => .no
  decS := fun t => match t with
    | 4 => fun v => cbo.one v
    | 5 => fun v => cu8.one v
    | 35 => fun v => cu16.one v
    | 82 => fun v => cd81.agg v
    | 83 => fun v => cd81.agg v
    | 92 => fun v => ((Codec.list 5 1 (fun (a : Int) => cu8.oneV a) : Codec Ty (List (Ty 5)))).one v
    | 134 => fun v => cd133.agg v
    | 137 => fun v => cd136.agg v
    | 143 => fun v => cd142.agg v
    | 123 => fun v => cd122.agg v
    | 59 => fun v => cd58.agg v
    | 90 => fun v => cd89.agg v
    | 117 => fun v => cd116.agg v
    | 109 => fun v => cd108.agg v
    | 103 => fun v => cd102.agg v
    | 31 => fun v => cd30.agg v
    | 32 => fun v => ci64.one v
    | 33 => fun _ => none
    | 22 => fun v => ((Codec.list 4 1 (fun (a : Bool) => cbo.oneV a) : Codec Ty (List (Ty 4)))).one v
    | 23 => fun v => ((Codec.list 90 2 (fun (a : api_Pair) => .agg (cd89.encV a)) : Codec Ty (List (Ty 90)))).one v
    | 24 => fun v => ((Codec.list 117 2 (fun (a : api_Loss) => .agg (cd116.encV a)) : Codec Ty (List (Ty 117)))).one v
    | 27 => fun v => ((Codec.list 59 46 (fun (a : api_Node) => .agg (cd58.encV a)) : Codec Ty (List (Ty 59)))).one v
    | 3 => fun v => ci64.one v
    | 57 => fun v => ((Codec.list 123 3 (fun (a : api_Timed) => .agg (cd122.encV a)) : Codec Ty (List (Ty 123)))).one v
    | 101 => fun v => cd100.agg v
    | 62 => fun v => ((Codec.list 101 11 (fun (a : api_MeshEvent) => .agg (cd100.encV a)) : Codec Ty (List (Ty 101)))).one v
    | 63 => fun _ => none
    | 26 => fun v => cd25.agg v
    | 45 => fun v => ((Codec.list 35 1 (fun (a : Int) => cu16.oneV a) : Codec Ty (List (Ty 35)))).one v
    | 51 => fun v => cd50.agg v
    | 132 => fun v => ((Codec.list 92 1 (fun (a : List Int) => ((Codec.list 5 1 (fun (a : Int) => cu8.oneV a) : Codec Ty (List (Ty 5)))).oneV a) : Codec Ty (List (Ty 92)))).one v
    | 54 => fun v => cd53.agg v
    | 141 => fun v => cd140.agg v
    | 56 => fun v => cd55.agg v
    | 36 => fun v => cu64.one v
    | 37 => fun v => cu64.one v
    | 323 => fun v => cd322.agg v
    | 42 => fun v => cu32.one v
    | 28 => fun v => ((Codec.list 109 4 (fun (a : api_Hop) => .agg (cd108.encV a)) : Codec Ty (List (Ty 109)))).one v
    | 29 => fun v => ((Codec.list 103 13 (fun (a : api_MeshNote) => .agg (cd102.encV a)) : Codec Ty (List (Ty 103)))).one v
    | 46 => fun v => ((Codec.list 82 3 (fun (a : api_SeqID) => .agg (cd81.encV a)) : Codec Ty (List (Ty 82)))).one v
    | 47 => fun v => ((Codec.list 83 3 (fun (a : api_SeqID) => .agg (cd81.encV a)) : Codec Ty (List (Ty 83)))).one v
    | 48 => fun v => ((Codec.list 134 10 (fun (a : api_Outgoing) => .agg (cd133.encV a)) : Codec Ty (List (Ty 134)))).one v
    | 49 => fun v => ((Codec.list 137 11 (fun (a : api_Incoming) => .agg (cd136.encV a)) : Codec Ty (List (Ty 137)))).one v
    | 52 => fun v => ((Codec.list 143 18 (fun (a : api_Queued) => .agg (cd142.encV a)) : Codec Ty (List (Ty 143)))).one v
    | _ => fun _ => none
  keys := [4, 5, 35, 82, 83, 92, 134, 137, 143, 123, 59, 90, 117, 109, 103, 31, 32, 33, 22, 23, 24, 27, 3, 57, 101, 62, 63, 26, 45, 51, 132, 54, 141, 56, 36, 37, 323, 42, 28, 29, 46, 47, 48, 49, 52]
theorem cdok81 : CodecOK U cd81 [0, 0, 0] := CodecOK.iso ((CodecOK.int _).pair ((CodecOK.int _).pair ((CodecOK.int _).pair CodecOK.unit))) (fun _ => rfl) (fun _ => rfl)
theorem cdok133 : CodecOK U cd133 [0, 0, 0, 0, 0, 1, 0, 0, 0, 0] := CodecOK.iso ((CodecOK.int _).pair ((CodecOK.int _).pair ((CodecOK.bool).pair ((CodecOK.int _).pair ((CodecOK.int _).pair ((CodecOK.list (U := U) (t := 92) (n := 1) (e := fun (a : List Int) => ((Codec.list 5 1 (fun (a : Int) => cu8.oneV a) : Codec Ty (List (Ty 5)))).oneV a) (fun _ => rfl) rfl (fun a => (CodecOK.list (U := U) (t := 5) (n := 1) (e := fun (a : Int) => cu8.oneV a) (fun _ => rfl) rfl (fun a => (CodecOK.int _ : CodecOK U cu8 _).oneNr a) (fun a b h => (CodecOK.int _ : CodecOK U cu8 _).oneInj h) : CodecOK U (Codec.list 5 1 (fun (a : Int) => cu8.oneV a) : Codec Ty (List (Ty 5))) _).oneNr a) (fun a b h => (CodecOK.list (U := U) (t := 5) (n := 1) (e := fun (a : Int) => cu8.oneV a) (fun _ => rfl) rfl (fun a => (CodecOK.int _ : CodecOK U cu8 _).oneNr a) (fun a b h => (CodecOK.int _ : CodecOK U cu8 _).oneInj h) : CodecOK U (Codec.list 5 1 (fun (a : Int) => cu8.oneV a) : Codec Ty (List (Ty 5))) _).oneInj h)).pair ((CodecOK.int _).pair ((CodecOK.int _).pair ((CodecOK.int _).pair ((CodecOK.int _).pair CodecOK.unit)))))))))) (fun _ => rfl) (fun _ => rfl)
theorem cdok136 : CodecOK U cd136 [0, 0, 0, 0, 0, 0, 1, 0, 0, 0, 0] := CodecOK.iso ((CodecOK.int _).pair ((CodecOK.int _).pair ((CodecOK.bool).pair ((CodecOK.int _).pair ((CodecOK.int _).pair ((CodecOK.int _).pair ((CodecOK.list (U := U) (t := 92) (n := 1) (e := fun (a : List Int) => ((Codec.list 5 1 (fun (a : Int) => cu8.oneV a) : Codec Ty (List (Ty 5)))).oneV a) (fun _ => rfl) rfl (fun a => (CodecOK.list (U := U) (t := 5) (n := 1) (e := fun (a : Int) => cu8.oneV a) (fun _ => rfl) rfl (fun a => (CodecOK.int _ : CodecOK U cu8 _).oneNr a) (fun a b h => (CodecOK.int _ : CodecOK U cu8 _).oneInj h) : CodecOK U (Codec.list 5 1 (fun (a : Int) => cu8.oneV a) : Codec Ty (List (Ty 5))) _).oneNr a) (fun a b h => (CodecOK.list (U := U) (t := 5) (n := 1) (e := fun (a : Int) => cu8.oneV a) (fun _ => rfl) rfl (fun a => (CodecOK.int _ : CodecOK U cu8 _).oneNr a) (fun a b h => (CodecOK.int _ : CodecOK U cu8 _).oneInj h) : CodecOK U (Codec.list 5 1 (fun (a : Int) => cu8.oneV a) : Codec Ty (List (Ty 5))) _).oneInj h)).pair ((CodecOK.int _).pair ((CodecOK.int _).pair ((CodecOK.int _).pair ((CodecOK.bool).pair CodecOK.unit))))))))))) (fun _ => rfl) (fun _ => rfl)
theorem cdok138 : CodecOK U cd138 [0, 0, 0, 0, 0, 0, 0, 1] := CodecOK.iso ((CodecOK.int _).pair ((CodecOK.int _).pair ((CodecOK.bool).pair ((CodecOK.int _).pair ((CodecOK.int _).pair ((CodecOK.int _).pair ((CodecOK.int _).pair ((CodecOK.list (U := U) (t := 5) (n := 1) (e := fun (a : Int) => cu8.oneV a) (fun _ => rfl) rfl (fun a => (CodecOK.int _ : CodecOK U cu8 _).oneNr a) (fun a b h => (CodecOK.int _ : CodecOK U cu8 _).oneInj h)).pair CodecOK.unit)))))))) (fun _ => rfl) (fun _ => rfl)
theorem cdok140 : CodecOK U cd140 [0, 0, 0, 0, 0, 0, 0, 0, 0, 1] := CodecOK.iso ((CodecOK.bool).pair ((CodecOK.bool).pair ((CodecOK.bool).pair ((CodecOK.int _).pair ((CodecOK.int _).pair ((CodecOK.int _).pair ((CodecOK.int _).pair ((CodecOK.int _).pair ((CodecOK.bool).pair ((CodecOK.list (U := U) (t := 5) (n := 1) (e := fun (a : Int) => cu8.oneV a) (fun _ => rfl) rfl (fun a => (CodecOK.int _ : CodecOK U cu8 _).oneNr a) (fun a b h => (CodecOK.int _ : CodecOK U cu8 _).oneInj h)).pair CodecOK.unit)))))))))) (fun _ => rfl) (fun _ => rfl)
theorem cdok142 : CodecOK U cd142 [0, 0, 0, 0, 0, 0, 0, 1, 0, 0, 0, 0, 0, 0, 0, 0, 0, 1] := CodecOK.iso ((cdok138).pair ((cdok140).pair CodecOK.unit)) (fun _ => rfl) (fun _ => rfl)
theorem cdok122 : CodecOK U cd122 [0, 1, 0] := CodecOK.iso ((CodecOK.int _).pair ((CodecOK.list (U := U) (t := 5) (n := 1) (e := fun (a : Int) => cu8.oneV a) (fun _ => rfl) rfl (fun a => (CodecOK.int _ : CodecOK U cu8 _).oneNr a) (fun a b h => (CodecOK.int _ : CodecOK U cu8 _).oneInj h)).pair ((CodecOK.int _).pair CodecOK.unit))) (fun _ => rfl) (fun _ => rfl)
theorem cdok38 : CodecOK U cd38 [0, 0, 0, 0, 0] := CodecOK.iso ((CodecOK.int _).pair ((CodecOK.int _).pair ((CodecOK.int _).pair ((CodecOK.int _).pair ((CodecOK.int _).pair CodecOK.unit))))) (fun _ => rfl) (fun _ => rfl)
theorem cdok40 : CodecOK U cd40 [0, 0, 0, 0, 0, 0, 0, 0, 0, 0, 0] := CodecOK.iso ((CodecOK.int _).pair ((cdok38).pair ((cdok38).pair CodecOK.unit))) (fun _ => rfl) (fun _ => rfl)
theorem cdok43 : CodecOK U cd43 [0, 0, 0] := CodecOK.iso ((CodecOK.int _).pair ((CodecOK.bool).pair ((CodecOK.int _).pair CodecOK.unit))) (fun _ => rfl) (fun _ => rfl)
theorem cdok50 : CodecOK U cd50 [10, 11] := CodecOK.iso ((CodecOK.list (U := U) (t := 134) (n := 10) (e := fun (a : api_Outgoing) => .agg (cd133.encV a)) (fun _ => rfl) rfl (fun a => cdok133.nr a) (fun a b h => cdok133.inj _ _ (by injection h))).pair ((CodecOK.list (U := U) (t := 137) (n := 11) (e := fun (a : api_Incoming) => .agg (cd136.encV a)) (fun _ => rfl) rfl (fun a => cdok136.nr a) (fun a b h => cdok136.inj _ _ (by injection h))).pair CodecOK.unit)) (fun _ => rfl) (fun _ => rfl)
theorem cdok53 : CodecOK U cd53 [0, 18, 1, 0, 0, 0, 0, 0] := CodecOK.iso ((CodecOK.int _).pair ((CodecOK.list (U := U) (t := 143) (n := 18) (e := fun (a : api_Queued) => .agg (cd142.encV a)) (fun _ => rfl) rfl (fun a => cdok142.nr a) (fun a b h => cdok142.inj _ _ (by injection h))).pair ((CodecOK.list (U := U) (t := 35) (n := 1) (e := fun (a : Int) => cu16.oneV a) (fun _ => rfl) rfl (fun a => (CodecOK.int _ : CodecOK U cu16 _).oneNr a) (fun a b h => (CodecOK.int _ : CodecOK U cu16 _).oneInj h)).pair ((CodecOK.int _).pair ((CodecOK.bool).pair ((CodecOK.int _).pair ((CodecOK.int _).pair ((CodecOK.int _).pair CodecOK.unit)))))))) (fun _ => rfl) (fun _ => rfl)
theorem cdok55 : CodecOK U cd55 [0, 0, 0, 0, 0, 0, 1, 0, 0, 0] := CodecOK.iso ((CodecOK.int _).pair ((CodecOK.int _).pair ((CodecOK.int _).pair ((CodecOK.int _).pair ((CodecOK.int _).pair ((CodecOK.int _).pair ((CodecOK.list (U := U) (t := 35) (n := 1) (e := fun (a : Int) => cu16.oneV a) (fun _ => rfl) rfl (fun a => (CodecOK.int _ : CodecOK U cu16 _).oneNr a) (fun a b h => (CodecOK.int _ : CodecOK U cu16 _).oneInj h)).pair ((CodecOK.int _).pair ((CodecOK.bool).pair ((CodecOK.int _).pair CodecOK.unit)))))))))) (fun _ => rfl) (fun _ => rfl)
theorem cdok58 : CodecOK U cd58 [0, 0, 0, 0, 0, 0, 0, 0, 0, 0, 0, 0, 0, 0, 0, 0, 0, 0, 0, 0, 1, 3, 3, 10, 11, 0, 18, 1, 0, 0, 0, 0, 0, 0, 0, 0, 0, 0, 0, 1, 0, 0, 0, 3, 0, 0] := CodecOK.iso ((CodecOK.int _).pair ((CodecOK.int _).pair ((CodecOK.int _).pair ((cdok40).pair ((cdok43).pair ((CodecOK.int _).pair ((CodecOK.bool).pair ((CodecOK.bool).pair ((CodecOK.list (U := U) (t := 35) (n := 1) (e := fun (a : Int) => cu16.oneV a) (fun _ => rfl) rfl (fun a => (CodecOK.int _ : CodecOK U cu16 _).oneNr a) (fun a b h => (CodecOK.int _ : CodecOK U cu16 _).oneInj h)).pair ((CodecOK.list (U := U) (t := 82) (n := 3) (e := fun (a : api_SeqID) => .agg (cd81.encV a)) (fun _ => rfl) rfl (fun a => cdok81.nr a) (fun a b h => cdok81.inj _ _ (by injection h))).pair ((CodecOK.list (U := U) (t := 83) (n := 3) (e := fun (a : api_SeqID) => .agg (cd81.encV a)) (fun _ => rfl) rfl (fun a => cdok81.nr a) (fun a b h => cdok81.inj _ _ (by injection h))).pair ((cdok50).pair ((cdok53).pair ((cdok55).pair ((CodecOK.list (U := U) (t := 123) (n := 3) (e := fun (a : api_Timed) => .agg (cd122.encV a)) (fun _ => rfl) rfl (fun a => cdok122.nr a) (fun a b h => cdok122.inj _ _ (by injection h))).pair ((CodecOK.int _).pair ((CodecOK.bool).pair CodecOK.unit))))))))))))))))) (fun _ => rfl) (fun _ => rfl)
theorem cdok89 : CodecOK U cd89 [0, 0] := CodecOK.iso ((CodecOK.int _).pair ((CodecOK.int _).pair CodecOK.unit)) (fun _ => rfl) (fun _ => rfl)
theorem cdok116 : CodecOK U cd116 [0, 0] := CodecOK.iso ((CodecOK.int _).pair ((CodecOK.int _).pair CodecOK.unit)) (fun _ => rfl) (fun _ => rfl)
theorem cdok108 : CodecOK U cd108 [0, 0, 0, 1] := CodecOK.iso ((CodecOK.int _).pair ((CodecOK.int _).pair ((CodecOK.int _).pair ((CodecOK.list (U := U) (t := 5) (n := 1) (e := fun (a : Int) => cu8.oneV a) (fun _ => rfl) rfl (fun a => (CodecOK.int _ : CodecOK U cu8 _).oneNr a) (fun a b h => (CodecOK.int _ : CodecOK U cu8 _).oneInj h)).pair CodecOK.unit)))) (fun _ => rfl) (fun _ => rfl)
theorem cdok98 : CodecOK U cd98 [0, 0, 0, 0, 0, 0, 0, 1] := CodecOK.iso ((CodecOK.int _).pair ((CodecOK.int _).pair ((CodecOK.bool).pair ((CodecOK.int _).pair ((cdok81).pair ((CodecOK.list (U := U) (t := 5) (n := 1) (e := fun (a : Int) => cu8.oneV a) (fun _ => rfl) rfl (fun a => (CodecOK.int _ : CodecOK U cu8 _).oneNr a) (fun a b h => (CodecOK.int _ : CodecOK U cu8 _).oneInj h)).pair CodecOK.unit)))))) (fun _ => rfl) (fun _ => rfl)
theorem cdok100 : CodecOK U cd100 [0, 0, 0, 0, 0, 0, 0, 0, 1, 0, 0] := CodecOK.iso ((CodecOK.int _).pair ((cdok98).pair ((CodecOK.int _).pair ((CodecOK.int _).pair CodecOK.unit)))) (fun _ => rfl) (fun _ => rfl)
theorem cdok102 : CodecOK U cd102 [0, 0, 0, 0, 0, 0, 0, 0, 0, 0, 1, 0, 0] := CodecOK.iso ((CodecOK.int _).pair ((CodecOK.int _).pair ((cdok100).pair CodecOK.unit))) (fun _ => rfl) (fun _ => rfl)
theorem cdok30 : CodecOK U cd30 [46, 2, 2, 0, 0, 4, 13] := CodecOK.iso ((CodecOK.list (U := U) (t := 59) (n := 46) (e := fun (a : api_Node) => .agg (cd58.encV a)) (fun _ => rfl) rfl (fun a => cdok58.nr a) (fun a b h => cdok58.inj _ _ (by injection h))).pair ((CodecOK.list (U := U) (t := 90) (n := 2) (e := fun (a : api_Pair) => .agg (cd89.encV a)) (fun _ => rfl) rfl (fun a => cdok89.nr a) (fun a b h => cdok89.inj _ _ (by injection h))).pair ((CodecOK.list (U := U) (t := 117) (n := 2) (e := fun (a : api_Loss) => .agg (cd116.encV a)) (fun _ => rfl) rfl (fun a => cdok116.nr a) (fun a b h => cdok116.inj _ _ (by injection h))).pair ((CodecOK.int _).pair ((CodecOK.int _).pair ((CodecOK.list (U := U) (t := 109) (n := 4) (e := fun (a : api_Hop) => .agg (cd108.encV a)) (fun _ => rfl) rfl (fun a => cdok108.nr a) (fun a b h => cdok108.inj _ _ (by injection h))).pair ((CodecOK.list (U := U) (t := 103) (n := 13) (e := fun (a : api_MeshNote) => .agg (cd102.encV a)) (fun _ => rfl) rfl (fun a => cdok102.nr a) (fun a b h => cdok102.inj _ _ (by injection h))).pair CodecOK.unit))))))) (fun _ => rfl) (fun _ => rfl)
theorem cdok25 : CodecOK U cd25 [1, 1, 2, 2] := CodecOK.iso ((CodecOK.list (U := U) (t := 4) (n := 1) (e := fun (a : Bool) => cbo.oneV a) (fun _ => rfl) rfl (fun a => (CodecOK.bool : CodecOK U cbo _).oneNr a) (fun a b h => (CodecOK.bool : CodecOK U cbo _).oneInj h)).pair ((CodecOK.list (U := U) (t := 4) (n := 1) (e := fun (a : Bool) => cbo.oneV a) (fun _ => rfl) rfl (fun a => (CodecOK.bool : CodecOK U cbo _).oneNr a) (fun a b h => (CodecOK.bool : CodecOK U cbo _).oneInj h)).pair ((CodecOK.list (U := U) (t := 90) (n := 2) (e := fun (a : api_Pair) => .agg (cd89.encV a)) (fun _ => rfl) rfl (fun a => cdok89.nr a) (fun a b h => cdok89.inj _ _ (by injection h))).pair ((CodecOK.list (U := U) (t := 117) (n := 2) (e := fun (a : api_Loss) => .agg (cd116.encV a)) (fun _ => rfl) rfl (fun a => cdok116.nr a) (fun a b h => cdok116.inj _ _ (by injection h))).pair CodecOK.unit)))) (fun _ => rfl) (fun _ => rfl)
theorem cdok322 : CodecOK U cd322 [0, 0] := CodecOK.iso ((CodecOK.int _).pair ((CodecOK.int _).pair CodecOK.unit)) (fun _ => rfl) (fun _ => rfl)
theorem rows4 : rowsOf Tryz.prog 4 = [0] := by kernel_rfl
abbrev RE (E : Env) : Prop := E.rows = rowsOf Tryz.prog
theorem tyok4 {E} (hE : RE E) : TyOK U E 4 := .ofOne (c := cbo) (CodecOK.bool) ((congrFun hE 4).trans rows4) (fun h => na_bool h) (fun _ => rfl) (fun _ => rfl) (fun _ => rfl) (fun _ => rfl) (fun _ => rfl)
theorem rows5 : rowsOf Tryz.prog 5 = [0] := by kernel_rfl
theorem tyok5 {E} (hE : RE E) : TyOK U E 5 := .ofOne (c := cu8) (CodecOK.int _) ((congrFun hE 5).trans rows5) (fun h => na_int h) (fun _ => rfl) (fun _ => rfl) (fun _ => rfl) (fun _ => rfl) (fun _ => rfl)
theorem rows35 : rowsOf Tryz.prog 35 = [0] := by kernel_rfl
theorem tyok35 {E} (hE : RE E) : TyOK U E 35 := .ofOne (c := cu16) (CodecOK.int _) ((congrFun hE 35).trans rows35) (fun h => na_int h) (fun _ => rfl) (fun _ => rfl) (fun _ => rfl) (fun _ => rfl) (fun _ => rfl)
theorem rows82 : rowsOf Tryz.prog 82 = [0, 0, 0] := by kernel_rfl
theorem tyok82 {E} (hE : RE E) : TyOK U E 82 := .ofAgg cdok81 ((congrFun hE 82).trans rows82) (fun _ => rfl) (fun _ => rfl) (fun _ => rfl)
theorem rows83 : rowsOf Tryz.prog 83 = [0, 0, 0] := by kernel_rfl
theorem tyok83 {E} (hE : RE E) : TyOK U E 83 := .ofAgg cdok81 ((congrFun hE 83).trans rows83) (fun _ => rfl) (fun _ => rfl) (fun _ => rfl)
theorem rows92 : rowsOf Tryz.prog 92 = [1] := by kernel_rfl
theorem tyok92 {E} (hE : RE E) : TyOK U E 92 := .ofOne (c := (Codec.list 5 1 (fun (a : Int) => cu8.oneV a) : Codec Ty (List (Ty 5)))) (CodecOK.list (U := U) (t := 5) (n := 1) (e := fun (a : Int) => cu8.oneV a) (fun _ => rfl) rfl (fun a => (CodecOK.int _ : CodecOK U cu8 _).oneNr a) (fun a b h => (CodecOK.int _ : CodecOK U cu8 _).oneInj h)) ((congrFun hE 92).trans rows92) (fun h => na_list (U := U) (t := 5) (n := 1) (e := fun (a : Int) => cu8.oneV a) h) (fun _ => rfl) (fun _ => rfl) (fun _ => rfl) (fun _ => rfl) (fun _ => rfl)
theorem rows134 : rowsOf Tryz.prog 134 = [0, 0, 0, 0, 0, 1, 0, 0, 0, 0] := by kernel_rfl
theorem tyok134 {E} (hE : RE E) : TyOK U E 134 := .ofAgg cdok133 ((congrFun hE 134).trans rows134) (fun _ => rfl) (fun _ => rfl) (fun _ => rfl)
theorem rows137 : rowsOf Tryz.prog 137 = [0, 0, 0, 0, 0, 0, 1, 0, 0, 0, 0] := by kernel_rfl
theorem tyok137 {E} (hE : RE E) : TyOK U E 137 := .ofAgg cdok136 ((congrFun hE 137).trans rows137) (fun _ => rfl) (fun _ => rfl) (fun _ => rfl)
theorem rows143 : rowsOf Tryz.prog 143 = [0, 0, 0, 0, 0, 0, 0, 1, 0, 0, 0, 0, 0, 0, 0, 0, 0, 1] := by kernel_rfl
theorem tyok143 {E} (hE : RE E) : TyOK U E 143 := .ofAgg cdok142 ((congrFun hE 143).trans rows143) (fun _ => rfl) (fun _ => rfl) (fun _ => rfl)
theorem rows123 : rowsOf Tryz.prog 123 = [0, 1, 0] := by kernel_rfl
theorem tyok123 {E} (hE : RE E) : TyOK U E 123 := .ofAgg cdok122 ((congrFun hE 123).trans rows123) (fun _ => rfl) (fun _ => rfl) (fun _ => rfl)
theorem rows59 : rowsOf Tryz.prog 59 = [0, 0, 0, 0, 0, 0, 0, 0, 0, 0, 0, 0, 0, 0, 0, 0, 0, 0, 0, 0, 1, 3, 3, 10, 11, 0, 18, 1, 0, 0, 0, 0, 0, 0, 0, 0, 0, 0, 0, 1, 0, 0, 0, 3, 0, 0] := by kernel_rfl
theorem tyok59 {E} (hE : RE E) : TyOK U E 59 := .ofAgg cdok58 ((congrFun hE 59).trans rows59) (fun _ => rfl) (fun _ => rfl) (fun _ => rfl)
theorem rows90 : rowsOf Tryz.prog 90 = [0, 0] := by kernel_rfl
theorem tyok90 {E} (hE : RE E) : TyOK U E 90 := .ofAgg cdok89 ((congrFun hE 90).trans rows90) (fun _ => rfl) (fun _ => rfl) (fun _ => rfl)
theorem rows117 : rowsOf Tryz.prog 117 = [0, 0] := by kernel_rfl
theorem tyok117 {E} (hE : RE E) : TyOK U E 117 := .ofAgg cdok116 ((congrFun hE 117).trans rows117) (fun _ => rfl) (fun _ => rfl) (fun _ => rfl)
theorem rows109 : rowsOf Tryz.prog 109 = [0, 0, 0, 1] := by kernel_rfl
theorem tyok109 {E} (hE : RE E) : TyOK U E 109 := .ofAgg cdok108 ((congrFun hE 109).trans rows109) (fun _ => rfl) (fun _ => rfl) (fun _ => rfl)
theorem rows103 : rowsOf Tryz.prog 103 = [0, 0, 0, 0, 0, 0, 0, 0, 0, 0, 1, 0, 0] := by kernel_rfl
theorem tyok103 {E} (hE : RE E) : TyOK U E 103 := .ofAgg cdok102 ((congrFun hE 103).trans rows103) (fun _ => rfl) (fun _ => rfl) (fun _ => rfl)
theorem rows31 : rowsOf Tryz.prog 31 = [46, 2, 2, 0, 0, 4, 13] := by kernel_rfl
theorem tyok31 {E} (hE : RE E) : TyOK U E 31 := .ofAgg cdok30 ((congrFun hE 31).trans rows31) (fun _ => rfl) (fun _ => rfl) (fun _ => rfl)
theorem rows32 : rowsOf Tryz.prog 32 = [0] := by kernel_rfl
theorem tyok32 {E} (hE : RE E) : TyOK U E 32 := .ofOne (c := ci64) (CodecOK.int _) ((congrFun hE 32).trans rows32) (fun h => na_int h) (fun _ => rfl) (fun _ => rfl) (fun _ => rfl) (fun _ => rfl) (fun _ => rfl)
theorem tyok33 {E} (hE : RE E) : TyOK U E 33 := .tup [⟨31, fun a => a.1⟩, ⟨31, fun a => a.2.1⟩, ⟨32, fun a => a.2.2.1⟩, ⟨4, fun a => a.2.2.2⟩] ⟨tyok31 hE, tyok31 hE, tyok32 hE, tyok4 hE, trivial⟩ (fun _ => rfl) (fun _ => rfl) (fun _ => rfl) fun _ _ h => Prod.ext h.1 (Prod.ext h.2.1 (Prod.ext h.2.2.1 h.2.2.2.1))
theorem rows22 : rowsOf Tryz.prog 22 = [1] := by kernel_rfl
theorem tyok22 {E} (hE : RE E) : TyOK U E 22 := .ofOne (c := (Codec.list 4 1 (fun (a : Bool) => cbo.oneV a) : Codec Ty (List (Ty 4)))) (CodecOK.list (U := U) (t := 4) (n := 1) (e := fun (a : Bool) => cbo.oneV a) (fun _ => rfl) rfl (fun a => (CodecOK.bool : CodecOK U cbo _).oneNr a) (fun a b h => (CodecOK.bool : CodecOK U cbo _).oneInj h)) ((congrFun hE 22).trans rows22) (fun h => na_list (U := U) (t := 4) (n := 1) (e := fun (a : Bool) => cbo.oneV a) h) (fun _ => rfl) (fun _ => rfl) (fun _ => rfl) (fun _ => rfl) (fun _ => rfl)
theorem rows23 : rowsOf Tryz.prog 23 = [2] := by kernel_rfl
theorem tyok23 {E} (hE : RE E) : TyOK U E 23 := .ofOne (c := (Codec.list 90 2 (fun (a : api_Pair) => .agg (cd89.encV a)) : Codec Ty (List (Ty 90)))) (CodecOK.list (U := U) (t := 90) (n := 2) (e := fun (a : api_Pair) => .agg (cd89.encV a)) (fun _ => rfl) rfl (fun a => cdok89.nr a) (fun a b h => cdok89.inj _ _ (by injection h))) ((congrFun hE 23).trans rows23) (fun h => na_list (U := U) (t := 90) (n := 2) (e := fun (a : api_Pair) => .agg (cd89.encV a)) h) (fun _ => rfl) (fun _ => rfl) (fun _ => rfl) (fun _ => rfl) (fun _ => rfl)
theorem rows24 : rowsOf Tryz.prog 24 = [2] := by kernel_rfl
theorem tyok24 {E} (hE : RE E) : TyOK U E 24 := .ofOne (c := (Codec.list 117 2 (fun (a : api_Loss) => .agg (cd116.encV a)) : Codec Ty (List (Ty 117)))) (CodecOK.list (U := U) (t := 117) (n := 2) (e := fun (a : api_Loss) => .agg (cd116.encV a)) (fun _ => rfl) rfl (fun a => cdok116.nr a) (fun a b h => cdok116.inj _ _ (by injection h))) ((congrFun hE 24).trans rows24) (fun h => na_list (U := U) (t := 117) (n := 2) (e := fun (a : api_Loss) => .agg (cd116.encV a)) h) (fun _ => rfl) (fun _ => rfl) (fun _ => rfl) (fun _ => rfl) (fun _ => rfl)
theorem rows27 : rowsOf Tryz.prog 27 = [46] := by kernel_rfl
theorem tyok27 {E} (hE : RE E) : TyOK U E 27 := .ofOne (c := (Codec.list 59 46 (fun (a : api_Node) => .agg (cd58.encV a)) : Codec Ty (List (Ty 59)))) (CodecOK.list (U := U) (t := 59) (n := 46) (e := fun (a : api_Node) => .agg (cd58.encV a)) (fun _ => rfl) rfl (fun a => cdok58.nr a) (fun a b h => cdok58.inj _ _ (by injection h))) ((congrFun hE 27).trans rows27) (fun h => na_list (U := U) (t := 59) (n := 46) (e := fun (a : api_Node) => .agg (cd58.encV a)) h) (fun _ => rfl) (fun _ => rfl) (fun _ => rfl) (fun _ => rfl) (fun _ => rfl)
theorem rows3 : rowsOf Tryz.prog 3 = [0] := by kernel_rfl
theorem tyok3 {E} (hE : RE E) : TyOK U E 3 := .ofOne (c := ci64) (CodecOK.int _) ((congrFun hE 3).trans rows3) (fun h => na_int h) (fun _ => rfl) (fun _ => rfl) (fun _ => rfl) (fun _ => rfl) (fun _ => rfl)
theorem rows57 : rowsOf Tryz.prog 57 = [3] := by kernel_rfl
theorem tyok57 {E} (hE : RE E) : TyOK U E 57 := .ofOne (c := (Codec.list 123 3 (fun (a : api_Timed) => .agg (cd122.encV a)) : Codec Ty (List (Ty 123)))) (CodecOK.list (U := U) (t := 123) (n := 3) (e := fun (a : api_Timed) => .agg (cd122.encV a)) (fun _ => rfl) rfl (fun a => cdok122.nr a) (fun a b h => cdok122.inj _ _ (by injection h))) ((congrFun hE 57).trans rows57) (fun h => na_list (U := U) (t := 123) (n := 3) (e := fun (a : api_Timed) => .agg (cd122.encV a)) h) (fun _ => rfl) (fun _ => rfl) (fun _ => rfl) (fun _ => rfl) (fun _ => rfl)
theorem rows101 : rowsOf Tryz.prog 101 = [0, 0, 0, 0, 0, 0, 0, 0, 1, 0, 0] := by kernel_rfl
theorem tyok101 {E} (hE : RE E) : TyOK U E 101 := .ofAgg cdok100 ((congrFun hE 101).trans rows101) (fun _ => rfl) (fun _ => rfl) (fun _ => rfl)
theorem rows62 : rowsOf Tryz.prog 62 = [11] := by kernel_rfl
theorem tyok62 {E} (hE : RE E) : TyOK U E 62 := .ofOne (c := (Codec.list 101 11 (fun (a : api_MeshEvent) => .agg (cd100.encV a)) : Codec Ty (List (Ty 101)))) (CodecOK.list (U := U) (t := 101) (n := 11) (e := fun (a : api_MeshEvent) => .agg (cd100.encV a)) (fun _ => rfl) rfl (fun a => cdok100.nr a) (fun a b h => cdok100.inj _ _ (by injection h))) ((congrFun hE 62).trans rows62) (fun h => na_list (U := U) (t := 101) (n := 11) (e := fun (a : api_MeshEvent) => .agg (cd100.encV a)) h) (fun _ => rfl) (fun _ => rfl) (fun _ => rfl) (fun _ => rfl) (fun _ => rfl)
theorem tyok63 {E} (hE : RE E) : TyOK U E 63 := .tup [⟨59, fun a => a.1⟩, ⟨57, fun a => a.2.1⟩, ⟨62, fun a => a.2.2⟩] ⟨tyok59 hE, tyok57 hE, tyok62 hE, trivial⟩ (fun _ => rfl) (fun _ => rfl) (fun _ => rfl) fun _ _ h => Prod.ext h.1 (Prod.ext h.2.1 h.2.2.1)
theorem rows26 : rowsOf Tryz.prog 26 = [1, 1, 2, 2] := by kernel_rfl
theorem tyok26 {E} (hE : RE E) : TyOK U E 26 := .ofAgg cdok25 ((congrFun hE 26).trans rows26) (fun _ => rfl) (fun _ => rfl) (fun _ => rfl)
theorem rows45 : rowsOf Tryz.prog 45 = [1] := by kernel_rfl
theorem tyok45 {E} (hE : RE E) : TyOK U E 45 := .ofOne (c := (Codec.list 35 1 (fun (a : Int) => cu16.oneV a) : Codec Ty (List (Ty 35)))) (CodecOK.list (U := U) (t := 35) (n := 1) (e := fun (a : Int) => cu16.oneV a) (fun _ => rfl) rfl (fun a => (CodecOK.int _ : CodecOK U cu16 _).oneNr a) (fun a b h => (CodecOK.int _ : CodecOK U cu16 _).oneInj h)) ((congrFun hE 45).trans rows45) (fun h => na_list (U := U) (t := 35) (n := 1) (e := fun (a : Int) => cu16.oneV a) h) (fun _ => rfl) (fun _ => rfl) (fun _ => rfl) (fun _ => rfl) (fun _ => rfl)
theorem rows51 : rowsOf Tryz.prog 51 = [10, 11] := by kernel_rfl
theorem tyok51 {E} (hE : RE E) : TyOK U E 51 := .ofAgg cdok50 ((congrFun hE 51).trans rows51) (fun _ => rfl) (fun _ => rfl) (fun _ => rfl)
theorem rows132 : rowsOf Tryz.prog 132 = [1] := by kernel_rfl
theorem tyok132 {E} (hE : RE E) : TyOK U E 132 := .ofOne (c := (Codec.list 92 1 (fun (a : List Int) => ((Codec.list 5 1 (fun (a : Int) => cu8.oneV a) : Codec Ty (List (Ty 5)))).oneV a) : Codec Ty (List (Ty 92)))) (CodecOK.list (U := U) (t := 92) (n := 1) (e := fun (a : List Int) => ((Codec.list 5 1 (fun (a : Int) => cu8.oneV a) : Codec Ty (List (Ty 5)))).oneV a) (fun _ => rfl) rfl (fun a => (CodecOK.list (U := U) (t := 5) (n := 1) (e := fun (a : Int) => cu8.oneV a) (fun _ => rfl) rfl (fun a => (CodecOK.int _ : CodecOK U cu8 _).oneNr a) (fun a b h => (CodecOK.int _ : CodecOK U cu8 _).oneInj h) : CodecOK U (Codec.list 5 1 (fun (a : Int) => cu8.oneV a) : Codec Ty (List (Ty 5))) _).oneNr a) (fun a b h => (CodecOK.list (U := U) (t := 5) (n := 1) (e := fun (a : Int) => cu8.oneV a) (fun _ => rfl) rfl (fun a => (CodecOK.int _ : CodecOK U cu8 _).oneNr a) (fun a b h => (CodecOK.int _ : CodecOK U cu8 _).oneInj h) : CodecOK U (Codec.list 5 1 (fun (a : Int) => cu8.oneV a) : Codec Ty (List (Ty 5))) _).oneInj h)) ((congrFun hE 132).trans rows132) (fun h => na_list (U := U) (t := 92) (n := 1) (e := fun (a : List Int) => ((Codec.list 5 1 (fun (a : Int) => cu8.oneV a) : Codec Ty (List (Ty 5)))).oneV a) h) (fun _ => rfl) (fun _ => rfl) (fun _ => rfl) (fun _ => rfl) (fun _ => rfl)
theorem rows54 : rowsOf Tryz.prog 54 = [0, 18, 1, 0, 0, 0, 0, 0] := by kernel_rfl
theorem tyok54 {E} (hE : RE E) : TyOK U E 54 := .ofAgg cdok53 ((congrFun hE 54).trans rows54) (fun _ => rfl) (fun _ => rfl) (fun _ => rfl)
theorem rows141 : rowsOf Tryz.prog 141 = [0, 0, 0, 0, 0, 0, 0, 0, 0, 1] := by kernel_rfl
theorem tyok141 {E} (hE : RE E) : TyOK U E 141 := .ofAgg cdok140 ((congrFun hE 141).trans rows141) (fun _ => rfl) (fun _ => rfl) (fun _ => rfl)
theorem rows56 : rowsOf Tryz.prog 56 = [0, 0, 0, 0, 0, 0, 1, 0, 0, 0] := by kernel_rfl
theorem tyok56 {E} (hE : RE E) : TyOK U E 56 := .ofAgg cdok55 ((congrFun hE 56).trans rows56) (fun _ => rfl) (fun _ => rfl) (fun _ => rfl)
theorem rows36 : rowsOf Tryz.prog 36 = [0] := by kernel_rfl
theorem tyok36 {E} (hE : RE E) : TyOK U E 36 := .ofOne (c := cu64) (CodecOK.int _) ((congrFun hE 36).trans rows36) (fun h => na_int h) (fun _ => rfl) (fun _ => rfl) (fun _ => rfl) (fun _ => rfl) (fun _ => rfl)
theorem rows37 : rowsOf Tryz.prog 37 = [0] := by kernel_rfl
theorem tyok37 {E} (hE : RE E) : TyOK U E 37 := .ofOne (c := cu64) (CodecOK.int _) ((congrFun hE 37).trans rows37) (fun h => na_int h) (fun _ => rfl) (fun _ => rfl) (fun _ => rfl) (fun _ => rfl) (fun _ => rfl)
theorem rows323 : rowsOf Tryz.prog 323 = [0, 0] := by kernel_rfl
theorem tyok323 {E} (hE : RE E) : TyOK U E 323 := .ofAgg cdok322 ((congrFun hE 323).trans rows323) (fun _ => rfl) (fun _ => rfl) (fun _ => rfl)
theorem rows42 : rowsOf Tryz.prog 42 = [0] := by kernel_rfl
theorem tyok42 {E} (hE : RE E) : TyOK U E 42 := .ofOne (c := cu32) (CodecOK.int _) ((congrFun hE 42).trans rows42) (fun h => na_int h) (fun _ => rfl) (fun _ => rfl) (fun _ => rfl) (fun _ => rfl) (fun _ => rfl)
theorem rows28 : rowsOf Tryz.prog 28 = [4] := by kernel_rfl
theorem tyok28 {E} (hE : RE E) : TyOK U E 28 := .ofOne (c := (Codec.list 109 4 (fun (a : api_Hop) => .agg (cd108.encV a)) : Codec Ty (List (Ty 109)))) (CodecOK.list (U := U) (t := 109) (n := 4) (e := fun (a : api_Hop) => .agg (cd108.encV a)) (fun _ => rfl) rfl (fun a => cdok108.nr a) (fun a b h => cdok108.inj _ _ (by injection h))) ((congrFun hE 28).trans rows28) (fun h => na_list (U := U) (t := 109) (n := 4) (e := fun (a : api_Hop) => .agg (cd108.encV a)) h) (fun _ => rfl) (fun _ => rfl) (fun _ => rfl) (fun _ => rfl) (fun _ => rfl)
theorem rows29 : rowsOf Tryz.prog 29 = [13] := by kernel_rfl
theorem tyok29 {E} (hE : RE E) : TyOK U E 29 := .ofOne (c := (Codec.list 103 13 (fun (a : api_MeshNote) => .agg (cd102.encV a)) : Codec Ty (List (Ty 103)))) (CodecOK.list (U := U) (t := 103) (n := 13) (e := fun (a : api_MeshNote) => .agg (cd102.encV a)) (fun _ => rfl) rfl (fun a => cdok102.nr a) (fun a b h => cdok102.inj _ _ (by injection h))) ((congrFun hE 29).trans rows29) (fun h => na_list (U := U) (t := 103) (n := 13) (e := fun (a : api_MeshNote) => .agg (cd102.encV a)) h) (fun _ => rfl) (fun _ => rfl) (fun _ => rfl) (fun _ => rfl) (fun _ => rfl)
theorem rows46 : rowsOf Tryz.prog 46 = [3] := by kernel_rfl
theorem tyok46 {E} (hE : RE E) : TyOK U E 46 := .ofOne (c := (Codec.list 82 3 (fun (a : api_SeqID) => .agg (cd81.encV a)) : Codec Ty (List (Ty 82)))) (CodecOK.list (U := U) (t := 82) (n := 3) (e := fun (a : api_SeqID) => .agg (cd81.encV a)) (fun _ => rfl) rfl (fun a => cdok81.nr a) (fun a b h => cdok81.inj _ _ (by injection h))) ((congrFun hE 46).trans rows46) (fun h => na_list (U := U) (t := 82) (n := 3) (e := fun (a : api_SeqID) => .agg (cd81.encV a)) h) (fun _ => rfl) (fun _ => rfl) (fun _ => rfl) (fun _ => rfl) (fun _ => rfl)
theorem rows47 : rowsOf Tryz.prog 47 = [3] := by kernel_rfl
theorem tyok47 {E} (hE : RE E) : TyOK U E 47 := .ofOne (c := (Codec.list 83 3 (fun (a : api_SeqID) => .agg (cd81.encV a)) : Codec Ty (List (Ty 83)))) (CodecOK.list (U := U) (t := 83) (n := 3) (e := fun (a : api_SeqID) => .agg (cd81.encV a)) (fun _ => rfl) rfl (fun a => cdok81.nr a) (fun a b h => cdok81.inj _ _ (by injection h))) ((congrFun hE 47).trans rows47) (fun h => na_list (U := U) (t := 83) (n := 3) (e := fun (a : api_SeqID) => .agg (cd81.encV a)) h) (fun _ => rfl) (fun _ => rfl) (fun _ => rfl) (fun _ => rfl) (fun _ => rfl)
theorem rows48 : rowsOf Tryz.prog 48 = [10] := by kernel_rfl
theorem tyok48 {E} (hE : RE E) : TyOK U E 48 := .ofOne (c := (Codec.list 134 10 (fun (a : api_Outgoing) => .agg (cd133.encV a)) : Codec Ty (List (Ty 134)))) (CodecOK.list (U := U) (t := 134) (n := 10) (e := fun (a : api_Outgoing) => .agg (cd133.encV a)) (fun _ => rfl) rfl (fun a => cdok133.nr a) (fun a b h => cdok133.inj _ _ (by injection h))) ((congrFun hE 48).trans rows48) (fun h => na_list (U := U) (t := 134) (n := 10) (e := fun (a : api_Outgoing) => .agg (cd133.encV a)) h) (fun _ => rfl) (fun _ => rfl) (fun _ => rfl) (fun _ => rfl) (fun _ => rfl)
theorem rows49 : rowsOf Tryz.prog 49 = [11] := by kernel_rfl
theorem tyok49 {E} (hE : RE E) : TyOK U E 49 := .ofOne (c := (Codec.list 137 11 (fun (a : api_Incoming) => .agg (cd136.encV a)) : Codec Ty (List (Ty 137)))) (CodecOK.list (U := U) (t := 137) (n := 11) (e := fun (a : api_Incoming) => .agg (cd136.encV a)) (fun _ => rfl) rfl (fun a => cdok136.nr a) (fun a b h => cdok136.inj _ _ (by injection h))) ((congrFun hE 49).trans rows49) (fun h => na_list (U := U) (t := 137) (n := 11) (e := fun (a : api_Incoming) => .agg (cd136.encV a)) h) (fun _ => rfl) (fun _ => rfl) (fun _ => rfl) (fun _ => rfl) (fun _ => rfl)
theorem rows52 : rowsOf Tryz.prog 52 = [18] := by kernel_rfl
theorem tyok52 {E} (hE : RE E) : TyOK U E 52 := .ofOne (c := (Codec.list 143 18 (fun (a : api_Queued) => .agg (cd142.encV a)) : Codec Ty (List (Ty 143)))) (CodecOK.list (U := U) (t := 143) (n := 18) (e := fun (a : api_Queued) => .agg (cd142.encV a)) (fun _ => rfl) rfl (fun a => cdok142.nr a) (fun a b h => cdok142.inj _ _ (by injection h))) ((congrFun hE 52).trans rows52) (fun h => na_list (U := U) (t := 143) (n := 18) (e := fun (a : api_Queued) => .agg (cd142.encV a)) h) (fun _ => rfl) (fun _ => rfl) (fun _ => rfl) (fun _ => rfl) (fun _ => rfl)
theorem TyOK.four {E : Env} {t : Nat} (h : TyOK U E t) : (∀ a, toV U (U.encS t a) = U.enc t a) ∧ (∀ v a, U.decS t v = some a → retype (E.rows t) (toV U v) = U.enc t a) ∧ (∀ a, (U.enc t a).cells = toVs U (cellsS (U.encS t a))) ∧ (∀ a, noRef (U.enc t a) = true) := ⟨h.encS, h.dec, h.cells, h.nr⟩
def tysK : List Nat := [4, 5, 35, 82, 83, 92, 134, 137, 143, 123, 59, 90, 117, 109, 103, 31, 32, 33, 22, 23, 24, 27, 3, 57, 101, 62, 63, 26, 45, 51, 132, 54, 141, 56, 36, 37, 323, 42, 28, 29, 46, 47, 48, 49, 52]
def tysY : List Nat := [1392, 1393, 1394, 1395, 1396, 1397, 1398, 1399, 1400, 1401, 1402, 1403, 1404, 1405]
theorem ty_empty (t : Nat) (h : t ∉ tysK) (h' : t ∉ tysY) (a : Ty t) : False := by
  unfold Ty at a
  split at a <;> first | exact h (by decide) | exact h' (by decide) | exact a.elim
theorem all_K {E} (hE : RE E) : AllT (TyOK U E) tysK := ⟨tyok4 hE, tyok5 hE, tyok35 hE, tyok82 hE, tyok83 hE, tyok92 hE, tyok134 hE, tyok137 hE, tyok143 hE, tyok123 hE, tyok59 hE, tyok90 hE, tyok117 hE, tyok109 hE, tyok103 hE, tyok31 hE, tyok32 hE, tyok33 hE, tyok22 hE, tyok23 hE, tyok24 hE, tyok27 hE, tyok3 hE, tyok57 hE, tyok101 hE, tyok62 hE, tyok63 hE, tyok26 hE, tyok45 hE, tyok51 hE, tyok132 hE, tyok54 hE, tyok141 hE, tyok56 hE, tyok36 hE, tyok37 hE, tyok323 hE, tyok42 hE, tyok28 hE, tyok29 hE, tyok46 hE, tyok47 hE, tyok48 hE, tyok49 hE, tyok52 hE, trivial⟩
theorem all_Y (E : Env) : AllT (fun t => (∀ a, toV U (U.encS t a) = U.enc t a) ∧ (∀ v a, U.decS t v = some a → retype (E.rows t) (toV U v) = U.enc t a) ∧ (∀ a, (U.enc t a).cells = toVs U (cellsS (U.encS t a))) ∧ (∀ a, noRef (U.enc t a) = true)) tysY := by
  repeat' first | exact trivial | refine ⟨⟨fun a => rfl, (fun v a h => nomatch h), fun a => rfl, fun a => rfl⟩, ?_⟩
theorem univ_ok (E : Env) (hE : E.rows = rowsOf Tryz.prog) : UnivOK U E := by
  have key : ∀ t, (∀ a, toV U (U.encS t a) = U.enc t a) ∧ (∀ v a, U.decS t v = some a → retype (E.rows t) (toV U v) = U.enc t a) ∧ (∀ a, (U.enc t a).cells = toVs U (cellsS (U.encS t a))) ∧ (∀ a, noRef (U.enc t a) = true) := fun t => by
    by_cases h : t ∈ tysK
    · exact TyOK.four ((all_K hE).at h)
    by_cases h' : t ∈ tysY
    · exact (all_Y E).at h'
    have e := fun a => ty_empty t h h' a
    exact ⟨fun a => (e a).elim, fun v a h => (e a).elim, fun a => (e a).elim, fun a => (e a).elim⟩
  have sub : ∀ t ∈ U.keys, t ∈ tysK := by decide
  exact ⟨fun t => (key t).1, fun t => (key t).2.1, fun t => (key t).2.2.1, fun t => (key t).2.2.2, fun t ht => ((all_K hE).at (sub t ht)).inj⟩

def gl : Nat → Option (List V) := fun _ => none

theorem mix_ok : Tryz.prog.follows .mixedOrders = true := by kernel_rfl
def noH : FuncId → List FuncId → Option (HMod U) := fun _ _ => none
def mkT : Makers Tryz.prog := .no _
def B0 : Env := EV (U := U) Tryz.prog gl 0 (fun _ => none) noH mkT

abbrev MS := {ms : FuncId → Option (Mod U) // ∀ g m, ms g = some m → FnOK Tryz.prog B0 g m}
abbrev HS := {hs : FuncId → List FuncId → Option (HMod U) // ∀ g k m, hs g k = some m → HFnOK Tryz.prog B0 g m}
def msN : MS := ⟨fun _ => none, fun _ _ h => nomatch h⟩
def hsN : HS := ⟨fun _ _ => none, fun _ _ _ h => nomatch h⟩
def mc {f : FuncId} {m : Mod U} (h : FnOK Tryz.prog B0 f m) (s : MS) : MS := ⟨fun g => bif Nat.beq g f then some m else s.1 g, fun g m' e => by
  cases hb : Nat.beq g f with
  | true => dsimp only at e; rw [hb] at e; cases e; exact (Nat.eq_of_beq_eq_true hb) ▸ h
  | false => dsimp only at e; rw [hb] at e; exact s.2 g m' e⟩
def hc {f : FuncId} {m : HMod U} (k : List FuncId) (h : HFnOK Tryz.prog B0 f m) (s : HS) : HS := ⟨fun g k' => bif Nat.beq g f && k' == k then some m else s.1 g k', fun g k' m' e => by
  cases hb : (Nat.beq g f && k' == k) with
  | true => dsimp only at e; rw [hb] at e; cases e; exact (Nat.eq_of_beq_eq_true ((Bool.and_eq_true _ _).mp hb).1) ▸ h
  | false => dsimp only at e; rw [hb] at e; exact s.2 g k' m' e⟩
def AN : Nat → Option Lay := fun _ => none
noncomputable def entP (fn : Func) (ts : List Nat) (x : Args U ts) : Spot U := ⟨bodyOf fn, [], entryS ts x fn.ntmps, false⟩
noncomputable def entH (fn : Func) (sh : Shape) (x : sh.X U) : Spot U := ⟨bodyOf fn, [], entryH (sh.enc x) fn.ntmps, false⟩
noncomputable def spL (fn : Func) (p : List Nat) (L : Lay) (x : L.sh.X U) : Spot U := spot (bodyOf fn) p fn.ntmps L.keep (L.sh.enc x)
abbrev BlkP (f : FuncId) (fn : Func) (ms : MS) (hs : HS) (A : Nat → Option Lay) (rt : Nat) {Pt : Type} (T : Pt → Tr U (U.Ty rt ⊕ Pt)) (sp : Pt → Spot U) : Prop :=
  ∀ p, Le.runL (EV Tryz.prog gl f ms.1 hs.1 mkT) (mdlOf ms.1 hs.1 mkT.tab) A f fn 0 (doneP (EV Tryz.prog gl f ms.1 hs.1 mkT) fn) 1000 (.run (sp p).c) (sp p).K (sp p).st (sp p).sk = (T p).map (leafOf (outP (U := U) rt) sp)
abbrev BlkH (f : FuncId) (fn : Func) (ms : MS) (hs : HS) (A : Nat → Option Lay) (fa : List (List Fk)) (fb : List Bf) (k : Nat) (m : HMod U) {Pt : Type} (T : Pt → Tr U (U.Ty m.ky ⊕ Pt)) (sp : Pt → Spot U) : Prop :=
  ∀ p, Le.runL (EV Tryz.prog gl f ms.1 hs.1 mkT) (mdlOf ms.1 hs.1 mkT.tab) A f fn k (doneX (EV Tryz.prog gl f ms.1 hs.1 mkT) fn fa fb k m.sout m.one) 1000 (.run (sp p).c) (sp p).K (sp p).st (sp p).sk = (T p).map (leafOf m.out sp)
theorem okP {f : FuncId} {fn : Func} {ms : MS} {hs : HS} {A : Nat → Option Lay} {m : Mod U} {Pt : Type} {T : Pt → Tr U (U.Ty m.rt ⊕ Pt)} {sp : Pt → Spot U} (h : BlkP f fn ms hs A m.rt T sp) (b0 : Args U m.ts → Pt)
    (hc : calmC (EV Tryz.prog gl f ms.1 hs.1 mkT) f (bodyOf fn) = true) (hfn : Tryz.prog.funcs[f]? = some fn) (hn : (fn.name == "runtime.NumGoroutine") = false) (hb : fn.body = some (bodyOf fn))
    (hm : ∀ x, m.fn x = flow T (b0 x)) (hsp : ∀ x, sp (b0 x) = entP fn m.ts x) : FnOK Tryz.prog B0 f m :=
  fn_flowL rfl (univ_ok _ rfl) mix_ok ms.2 hs.2 hfn hn hb hc m T sp h b0 hm hsp
theorem okQ {f rt : Nat} {ts : List Nat} {hk : ∀ t ∈ ts, t ∈ U.keys} {fn : Func} {Pt : Type} {T : Pt → Tr U (U.Ty rt ⊕ Pt)} {b0 : Args U ts → Pt} (ms : MS) (hs : HS) (A : Nat → Option Lay) (sp : Pt → Spot U) (hfn : Tryz.prog.funcs[f]? = some fn) (h : BlkP f fn ms hs A rt T sp)
    (hc : (calmC (EV Tryz.prog gl f ms.1 hs.1 mkT) f (bodyOf fn), fn.name == "runtime.NumGoroutine", fn.body) = (true, false, some (bodyOf fn))) (hsp : ∀ x, sp (b0 x) = entP fn ts x) : FnOK Tryz.prog B0 f ⟨ts, rt, fun x => flow T (b0 x), hk⟩ :=
  okP (m := ⟨ts, rt, fun x => flow T (b0 x), hk⟩) h b0 (congrArg (·.1) hc) hfn (congrArg (·.2.1) hc) (congrArg (·.2.2) hc) (fun _ => rfl) hsp
theorem okH {f : FuncId} {fn : Func} {ms : MS} {hs : HS} {A : Nat → Option Lay} {fa : List (List Fk)} {fb : List Bf} {k : Nat} {m : HMod U} {Pt : Type} {T : Pt → Tr U (U.Ty m.ky ⊕ Pt)} {sp : Pt → Spot U} (h : BlkH f fn ms hs A fa fb k m T sp) (b0 : m.sin.X U → Pt)
    (hk : ∀ x : m.sin.X U, (m.sin.enc x).2.length = k) (hc : calmC (EV Tryz.prog gl f ms.1 hs.1 mkT) f (bodyOf fn) = true) (hfn : Tryz.prog.funcs[f]? = some fn) (hn : (fn.name == "runtime.NumGoroutine") = false) (hb : fn.body = some (bodyOf fn))
    (hm : ∀ x : m.sin.X U, m.fn x = flow T (b0 x)) (hsp : ∀ x : m.sin.X U, sp (b0 x) = entH fn m.sin x) : HFnOK Tryz.prog B0 f m :=
  hfn_flowL rfl (univ_ok _ rfl) mix_ok ms.2 hs.2 hfn hn hb hc m hk T sp h b0 hm hsp
theorem okR {f ky : Nat} {fn : Func} {fi : List (List Fk)} {bi : List Bf} {sin sout : Shape} {one : Bool} {toX : U.Ty ky → sout.X U} {ho : sin.OK U} {Pt : Type} {T : Pt → Tr U (U.Ty ky ⊕ Pt)} {b0 : sin.X U → Pt} (ms : MS) (hs : HS) (A : Nat → Option Lay) (fa : List (List Fk)) (fb : List Bf) (k : Nat) (sp : Pt → Spot U) (hfn : Tryz.prog.funcs[f]? = some fn)
    (h : BlkH f fn ms hs A fa fb k ⟨fi, bi, sin, sout, one, ky, toX, fun x => flow T (b0 x), ho⟩ T sp) (hc : (calmC (EV Tryz.prog gl f ms.1 hs.1 mkT) f (bodyOf fn), fn.name == "runtime.NumGoroutine", fn.body) = (true, false, some (bodyOf fn))) (hsp : ∀ x, ((sin.enc x).2.length, sp (b0 x)) = (k, entH fn sin x)) :
    HFnOK Tryz.prog B0 f ⟨fi, bi, sin, sout, one, ky, toX, fun x => flow T (b0 x), ho⟩ :=
  okH (m := ⟨fi, bi, sin, sout, one, ky, toX, fun x => flow T (b0 x), ho⟩) h b0 (fun x => congrArg (·.1) (hsp x)) (congrArg (·.1) hc) hfn (congrArg (·.2.1) hc) (congrArg (·.2.2) hc) (fun _ => rfl) (fun x => congrArg (·.2) (hsp x))
def al : List (Nat × Lay) → Nat → Option Lay
  | [], _ => none
  | (k, L) :: l, n => bif Nat.beq n k then some L else al l n
abbrev S1 (P R : Type) := P → Tr U (R ⊕ P)
theorem ok1 {f rt : Nat} {ts : List Nat} {hk : ∀ t ∈ ts, t ∈ U.keys} {fn : Func} {T : Args U ts → Tr U (U.Ty rt ⊕ Args U ts)} (ms : MS) (hs : HS) (hfn : Tryz.prog.funcs[f]? = some fn) (h : BlkP f fn ms hs AN rt T (entP fn ts))
    (hc : (calmC (EV Tryz.prog gl f ms.1 hs.1 mkT) f (bodyOf fn), fn.name == "runtime.NumGoroutine", fn.body) = (true, false, some (bodyOf fn))) : FnOK Tryz.prog B0 f ⟨ts, rt, fun x => flow T x, hk⟩ :=
  okQ (b0 := fun x => x) ms hs AN (entP fn ts) hfn h hc fun _ => rfl
abbrev kL {α : Type} (l : List α) : Bool := l.length == l.length
abbrev kA (n k : Nat) : Bool := decide (n * k ≤ lim) && decide (n ≤ maxLen)
abbrev k0 : List Fk := [.keep, .keep, .keep, .keep, .keep, .keep, .keep, .keep, .keep, .keep, .keep, .keep, .keep, .keep, .keep, .keep, .keep, .keep, .keep, .keep, .s 35 1, .s 82 3, .s 83 3, .s 134 10, .s 137 11, .keep, .s 143 18, .s 35 1, .keep, .keep, .keep, .keep, .keep, .keep, .keep, .keep, .keep, .keep, .keep, .s 35 1, .keep, .keep, .keep, .s 123 3, .keep, .keep]
abbrev k1 : List Fk := [.keep, .s 143 18, .s 35 1, .keep, .keep, .keep, .keep, .keep]
abbrev k2 : List Fk := [.keep, .keep, .keep, .keep, .keep, .keep, .keep, .keep, .keep, .s 5 1]

abbrev kl {α L : Type} (l : List α) (t : Tr U L) : Tr U L := .chk (kL l) t
abbrev kI {α : Type} (i : Int) (l : List α) : Bool := decide (0 ≤ i ∧ i < (l.length : Int))
abbrev lfD {L M : Type} (x : L) : Tr U (L ⊕ M) := .leaf (.inl x)
abbrev lfJ {L M : Type} (x : M) : Tr U (L ⊕ M) := .leaf (.inr x)
theorem DN : (∀ (L R : Type) (l : L) (J : L → Option R), (Tr.leaf l : Tr U L).den J = J l) ∧ (∀ (L R : Type) (c : Bool) (a b : Tr U L) (J : L → Option R), (Tr.br c a b).den J = cond c (a.den J) (b.den J)) ∧ (∀ (L R : Type) (t : Nat) (o : Option (U.Ty t)) (k : U.Ty t → Tr U L) (J : L → Option R), (Tr.bind t o k).den J = o.bind fun x => (k x).den J) ∧
    (∀ (L R : Type) (c : Bool) (a : Tr U L) (J : L → Option R), (Tr.chk c a).den J = cond c (a.den J) none) ∧ (∀ (L R : Type) (J : L → Option R), (Tr.fail : Tr U L).den J = none) ∧ (∀ (R P : Type) (g : P → Option R) (r : R), flowJ g (.inl r) = some r) ∧ (∀ (R P : Type) (g : P → Option R) (q : P), flowJ g (.inr q) = g q) ∧
    (∀ (α : Type) (l : List α), kL l = true) ∧ (∀ (L R α : Type) (l : List α) (a : Tr U L) (J : L → Option R), (kl l a).den J = a.den J) ∧ (∀ (L R : Type) (a : Tr U L) (J : L → Option R), (Tr.chk true a).den J = a.den J) ∧ (∀ (α : Type) (i : Int) (l : List α), kI i l = decide (0 ≤ i ∧ i < (l.length : Int))) ∧ (∀ n k : Nat, kA n k = (decide (n * k ≤ lim) && decide (n ≤ maxLen))) :=
  ⟨fun _ _ _ _ => rfl, fun _ _ _ _ _ _ => rfl, fun _ _ _ _ _ _ => rfl, fun _ _ _ _ _ => rfl, fun _ _ _ => rfl, fun _ _ _ _ => rfl, fun _ _ _ _ => rfl, fun _ _ => beq_self_eq_true _, fun _ _ _ l a J => by show cond (l.length == l.length) (a.den J) none = _; rw [beq_self_eq_true]; rfl, fun _ _ _ _ => rfl, fun _ _ _ => rfl, fun _ _ => rfl⟩
def keys1 : List Nat := [4, 5, 35, 92, 32, 33, 22, 23, 24, 27, 3, 57, 62, 63, 45, 132, 36, 37, 42, 28, 29, 46, 47, 48, 49, 52]
def keysN : List (Nat × Nat) := [(82, 3), (83, 3), (134, 10), (137, 11), (143, 18), (123, 3), (59, 46), (90, 2), (117, 2), (109, 4), (103, 13), (31, 7), (101, 11), (26, 4), (51, 2), (54, 8), (141, 10), (56, 10), (323, 2)]
theorem keys1_ok : ∀ t ∈ keys1, t ∈ U.keys ∧ ∀ a, cellsS (U.encS t a) = [U.encS t a] := by
  intro t ht
  repeat (rcases List.mem_cons.1 ht with rfl | ht; exact ⟨by decide, fun _ => rfl⟩)
  cases ht
theorem keysN_ok : ∀ p ∈ keysN, p.1 ∈ U.keys ∧ ∀ a, ∃ cs, U.encS p.1 a = .agg cs ∧ cs.length = p.2 := by
  intro p ht
  repeat (rcases List.mem_cons.1 ht with rfl | ht; exact ⟨by decide, fun _ => ⟨_, rfl, rfl⟩⟩)
  cases ht
theorem okS {s : Shape} (h : shB U keys1 keysN s = true) : s.OK U := Shape.ok_of keys1_ok keysN_ok h
def kt : Nat → List Fk
  | 31 => [.s 59 46, .s 90 2, .s 117 2, .keep, .keep, .s 109 4, .s 103 13]
  | 45 => [.s 35 1]
  | 51 => [.s 134 10, .s 137 11]
  | 54 => k1
  | 57 => [.s 123 3]
  | 59 => k0
  | 132 => [.s 92 1]
  | 141 => k2
  | 323 => [.keep, .keep]
  | _ => [.keep]
inductive Sl where
  | v (t : Nat) | a (t : Nat) | p (j : Nat) | o (e n j : Nat)
inductive Bo where
  | v (t : Nat) | s (t : Nat) | r (e : Nat)
def LT (s : List Nat) (l : List Sl) (b : List Bo) : Lay :=
  ⟨s, l.map fun | .v t => kt t | .a t => kt t | .p _ => [.keep] | .o e n _ => [.own e n], b.map fun | .v t => .var (kt t) | .s t => .var (kt t) | .r _ => .row true,
   ⟨l.map fun | .v t => .one (.v t 1 false) | .a t => .agg [.v t (kt t).length true] | .p j => .one (.ptr j) | .o e _ j => .one (.own e j),
    b.map fun | .v t => .var t 1 (.one (.v t 1 false)) | .s t => .var t (kt t).length (.agg [.v t (kt t).length true]) | .r e => .row e true⟩⟩
end
end Go.Proofs.YtpikcdlhgiooaaaGreat
