/- A part of the proof that RestoreNil returns true. This part: runs of the picture machine, checked by the kernel; no conditions. -/
import Derived.Test.YtpdapkpjkbpbmaaGreatDoorRun0
namespace Go.Proofs.YtpdapkpjkbpbmaaGreatDoor.Abs
open Go
noncomputable def lit2 : Lit := { fn := 56, nx0 := 706, args := [.pointer (some ⟨404, 0, none⟩)], L0 := [(404, .cells (T.ofList [.slice (some ⟨496, 0, none⟩) 1 0, .int .i64 (.ofNat 0)]) 2 0), (493, .cells (T.ofList [.string (bs [97])]) 1 1), (496, .cells (T.ofList [.int .i64 (.ofNat 0), .int .i64 (.ofNat 0), .int .i64 (.ofNat 0), .int .u64 (.ofNat 0), .string (bs [111, 110, 101]), .slice none 0 0, .int .i64 (.ofNat 1), .slice none 0 0, .slice (some ⟨493, 0, none⟩) 1 0]) 9 9)], v := .pointer (some ⟨972, 0, none⟩), L1 := [(404, .cells (T.ofList [.slice (some ⟨496, 0, none⟩) 1 0, .int .i64 (.ofNat 0)]) 2 0), (493, .cells (T.ofList [.string (bs [97])]) 1 1), (496, .cells (T.ofList [.int .i64 (.ofNat 0), .int .i64 (.ofNat 0), .int .i64 (.ofNat 0), .int .u64 (.ofNat 0), .string (bs [111, 110, 101]), .slice none 0 0, .int .i64 (.ofNat 1), .slice none 0 0, .slice (some ⟨493, 0, none⟩) 1 0]) 9 9), (972, .cells (T.ofList [.slice (some ⟨1480, 0, none⟩) 1 0, .int .i64 (.ofNat 0)]) 2 0), (1432, .cells (T.ofList [.string (bs [97])]) 1 1), (1480, .cells (T.ofList [.int .i64 (.ofNat 0), .int .i64 (.ofNat 0), .int .i64 (.ofNat 0), .int .u64 (.ofNat 0), .string (bs [111, 110, 101]), .slice none 0 0, .int .i64 (.ofNat 1), .slice none 0 0, .slice (some ⟨1432, 0, none⟩) 1 0]) 9 9)], nx1 := 1500 }
set_option maxRecDepth 1000000 in
theorem lit2_run : okRun lit2 (runCall PP KK pl2 100000 lit2.fn lit2.args (putAll lit2.L0 .leaf) lit2.nx0) = true := by kernel_rfl
noncomputable def ls2 : T Lit := (.leaf : T Lit).set 706 lit2
noncomputable def pl3 : T Plug := pl2.set 56 (.sum (pLits NN ls2))
end Go.Proofs.YtpdapkpjkbpbmaaGreatDoor.Abs
namespace Go.Proofs.YtpdapkpjkbpbmaaGreatDoor.Abs
open Go
noncomputable def lit3 : Lit := { fn := 56, nx0 := 1523, args := [.pointer (some ⟨404, 0, none⟩)], L0 := [(404, .cells (T.ofList [.slice (some ⟨496, 0, none⟩) 1 0, .int .i64 (.ofNat 0)]) 2 0), (493, .cells (T.ofList [.string (bs [97])]) 1 1), (496, .cells (T.ofList [.int .i64 (.ofNat 0), .int .i64 (.ofNat 0), .int .i64 (.ofNat 0), .int .u64 (.ofNat 0), .string (bs [111, 110, 101]), .slice none 0 0, .int .i64 (.ofNat 1), .slice none 0 0, .slice (some ⟨493, 0, none⟩) 1 0]) 9 9)], v := .pointer (some ⟨1789, 0, none⟩), L1 := [(404, .cells (T.ofList [.slice (some ⟨496, 0, none⟩) 1 0, .int .i64 (.ofNat 0)]) 2 0), (493, .cells (T.ofList [.string (bs [97])]) 1 1), (496, .cells (T.ofList [.int .i64 (.ofNat 0), .int .i64 (.ofNat 0), .int .i64 (.ofNat 0), .int .u64 (.ofNat 0), .string (bs [111, 110, 101]), .slice none 0 0, .int .i64 (.ofNat 1), .slice none 0 0, .slice (some ⟨493, 0, none⟩) 1 0]) 9 9), (1789, .cells (T.ofList [.slice (some ⟨2297, 0, none⟩) 1 0, .int .i64 (.ofNat 0)]) 2 0), (2249, .cells (T.ofList [.string (bs [97])]) 1 1), (2297, .cells (T.ofList [.int .i64 (.ofNat 0), .int .i64 (.ofNat 0), .int .i64 (.ofNat 0), .int .u64 (.ofNat 0), .string (bs [111, 110, 101]), .slice none 0 0, .int .i64 (.ofNat 1), .slice none 0 0, .slice (some ⟨2249, 0, none⟩) 1 0]) 9 9)], nx1 := 2317 }
set_option maxRecDepth 1000000 in
theorem lit3_run : okRun lit3 (runCall PP KK pl3 100000 lit3.fn lit3.args (putAll lit3.L0 .leaf) lit3.nx0) = true := by kernel_rfl
noncomputable def ls3 : T Lit := ls2.set 1523 lit3
noncomputable def pl4 : T Plug := pl3.set 56 (.sum (pLits NN ls3))
end Go.Proofs.YtpdapkpjkbpbmaaGreatDoor.Abs
