/- A part of the proof that EngineNil returns true. This part: runs of the picture machine, checked by the kernel; no conditions. -/
import Derived.Test.YtmiojdppkooikaaGreatDoorRunBase
namespace Go.Proofs.YtmiojdppkooikaaGreatDoor.Abs
open Go
noncomputable def lit0 : Lit := { fn := 319, nx0 := 28, args := [.agg #[.int .i64 (.ofNat 1), .slice (some ⟨15, 0, none⟩) 1 3, .slice (some ⟨16, 0, none⟩) 4 9]], L0 := [(15, .cells (T.ofList [.int .i64 (.ofNat 1), .int .i64 (.ofNat 1), .string (bs [])]) 3 8594587651), (16, .cells (T.ofList [.int .i64 (.ofNat 2), .int .i64 (.ofNat 0), .int .i64 (.ofNat 1), .int .i64 (.ofNat 0), .int .i64 (.ofNat 22), .int .i64 (.ofNat 0), .int .i64 (.ofNat 31), .int .i64 (.ofNat 0)]) 8 8598061058)], v := .tuple #[.slice (some ⟨104, 0, none⟩) 4 0, .int .i64 (.ofNat 0), .int .i64 (.ofNat 0)], L1 := [(15, .cells (T.ofList [.int .i64 (.ofNat 1), .int .i64 (.ofNat 1), .string (bs [])]) 3 8594587651), (16, .cells (T.ofList [.int .i64 (.ofNat 2), .int .i64 (.ofNat 0), .int .i64 (.ofNat 1), .int .i64 (.ofNat 0), .int .i64 (.ofNat 22), .int .i64 (.ofNat 0), .int .i64 (.ofNat 31), .int .i64 (.ofNat 0)]) 8 8598061058), (104, .cells (T.ofList [.int .i64 (.ofNat 0), .int .i64 (.ofNat 1), .int .i64 (.ofNat 2), .int .i64 (.ofNat 0)]) 4 8590131201)], nx1 := 105 }
set_option maxRecDepth 1000000 in
theorem lit0_run : runCallA PP KK pl0 (okLit lit0) 100000 12 lit0.fn lit0.args (putAll lit0.L0 .leaf) lit0.nx0 = true := by kernel_rfl
noncomputable def ls0 : T Lit := (.leaf : T Lit).set 28 lit0
noncomputable def pl1 : T Plug := pl0.set 319 (.sum (pLits NN ls0))
end Go.Proofs.YtmiojdppkooikaaGreatDoor.Abs
