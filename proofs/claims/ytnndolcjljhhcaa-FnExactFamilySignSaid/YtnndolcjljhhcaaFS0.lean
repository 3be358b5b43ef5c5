import Derived.Test.YtnndolcjljhhcaaE25
import Derived.Test.YtnndolcjljhhcaaProg
import Derived.KernelRfl
namespace Go.Proofs.YtnndolcjljhhcaaE
def ti : TI := [(2, ⟨.int .i64, .int .i64, 8⟩),
  (3, ⟨.int .i64, .int .i64, 8⟩),
  (4, ⟨.bool, .bool, 1⟩),
  (22, ⟨.slice 3 (.int .i64), .slice 3, 24⟩),
  (48, ⟨.pair (.int .i64) (.int .i64), .struct [(0, 3), (1, 3)], 16⟩),
  (49, ⟨.pair (.int .i64) (.int .i64), .struct [(0, 3), (1, 3)], 16⟩),
  (52, ⟨.pair (.int .i64) (.int .i64), .struct [(0, 3), (1, 3)], 16⟩),
  (145, ⟨.int .u64, .int .u64, 8⟩),
  (151, ⟨.slice 174 (.int .u32), .slice 174, 24⟩),
  (152, ⟨.pair (.bool) (.slice 174 (.int .u32)), .struct [(0, 4), (1, 151)], 32⟩),
  (153, ⟨.pair (.bool) (.slice 174 (.int .u32)), .struct [(0, 4), (1, 151)], 32⟩),
  (170, ⟨.int .u64, .int .u64, 8⟩),
  (171, ⟨.pair (.bool) (.pair (.int .u64) (.int .u64)), .struct [(0, 4), (1, 170), (2, 170)], 24⟩),
  (172, ⟨.pair (.bool) (.pair (.int .u64) (.int .u64)), .struct [(0, 4), (1, 170), (2, 170)], 24⟩),
  (174, ⟨.int .u32, .int .u32, 4⟩)]
def tiV : TI := [(2, ⟨.int .i64, .int .i64, 8⟩),
  (3, ⟨.int .i64, .int .i64, 8⟩),
  (4, ⟨.bool, .bool, 1⟩),
  (22, ⟨.vslice 3 (.int .i64), .slice 3, 24⟩),
  (48, ⟨.pair (.int .i64) (.int .i64), .struct [(0, 3), (1, 3)], 16⟩),
  (49, ⟨.pair (.int .i64) (.int .i64), .struct [(0, 3), (1, 3)], 16⟩),
  (52, ⟨.pair (.int .i64) (.int .i64), .struct [(0, 3), (1, 3)], 16⟩),
  (145, ⟨.int .u64, .int .u64, 8⟩),
  (151, ⟨.vslice 174 (.int .u32), .slice 174, 24⟩),
  (152, ⟨.pair (.bool) (.vslice 174 (.int .u32)), .struct [(0, 4), (1, 151)], 32⟩),
  (153, ⟨.pair (.bool) (.vslice 174 (.int .u32)), .struct [(0, 4), (1, 151)], 32⟩),
  (170, ⟨.int .u64, .int .u64, 8⟩),
  (171, ⟨.pair (.bool) (.pair (.int .u64) (.int .u64)), .struct [(0, 4), (1, 170), (2, 170)], 24⟩),
  (172, ⟨.pair (.bool) (.pair (.int .u64) (.int .u64)), .struct [(0, 4), (1, 170), (2, 170)], 24⟩),
  (174, ⟨.int .u32, .int .u32, 4⟩)]
theorem tiOk : TiOk Go.Proofs.Try.prog ti := tiB_ok (by kernel_rfl)
theorem tiVOk : TiOk Go.Proofs.Try.prog tiV := tiB_ok (by kernel_rfl)
theorem mo : Go.Proofs.Try.prog.follows .mixedOrders = true := by kernel_rfl
def env0 : List (FuncId × Spec) := []
theorem env0_ok : EnvOk Go.Proofs.Try.prog (envOf env0) := envOf_nil _
end Go.Proofs.YtnndolcjljhhcaaE
