/- The program's types and functions, as far as the steps ask for them. -/
import Derived.Test.YtjaiojfmcpbkbaaMore2
import Derived.Test.YtjaiojfmcpbkbaaRows
import Derived.KernelRfl
namespace Go.Proofs.Ytjaiojfmcpbkbaa
open Go.RowKit
theorem Ty.t1 : TI Try.prog 1 (.nilFunc) 1 8 := TI.of (by kernel_rfl)
theorem Ty.t2 : TI Try.prog 2 (.int .i64 0) 1 8 := TI.of (by kernel_rfl)
theorem Ty.t3 : TI Try.prog 3 (.int .i64 0) 1 8 := TI.of (by kernel_rfl)
theorem Ty.t4 : TI Try.prog 4 (.bool false) 1 1 := TI.of (by kernel_rfl)
theorem Ty.t5 : TI Try.prog 5 (.int .u8 0) 1 1 := TI.of (by kernel_rfl)
theorem Ty.t6 : TI Try.prog 6 (.int .u8 0) 1 1 := TI.of (by kernel_rfl)
theorem Ty.t7 : TI Try.prog 7 (.agg #[.int .i64 0, .int .i64 0, .bool false, .int .u8 0]) 4 24 := TI.of (by kernel_rfl)
theorem Ty.t8 : TI Try.prog 8 (.agg #[.int .i64 0, .int .i64 0, .bool false, .int .u8 0]) 4 24 := TI.of (by kernel_rfl)
theorem Ty.t9 : TI Try.prog 9 (.string ⟨#[]⟩) 1 16 := TI.of (by kernel_rfl)
theorem Ty.t10 : TI Try.prog 10 (.string ⟨#[]⟩) 1 16 := TI.of (by kernel_rfl)
theorem Ty.t11 : TI Try.prog 11 (.string ⟨#[]⟩) 1 16 := TI.of (by kernel_rfl)
theorem Ty.t12 : TI Try.prog 12 (.int .u64 0) 1 8 := TI.of (by kernel_rfl)
theorem Ty.t13 : TI Try.prog 13 (.agg #[.string ⟨#[]⟩, .int .u64 0]) 2 24 := TI.of (by kernel_rfl)
theorem Ty.t14 : TI Try.prog 14 (.agg #[.string ⟨#[]⟩, .int .u64 0]) 2 24 := TI.of (by kernel_rfl)
theorem Ty.t15 : TI Try.prog 15 (.pointer none) 1 8 := TI.of (by kernel_rfl)
theorem Ty.t16 : TI Try.prog 16 (.pointer none) 1 8 := TI.of (by kernel_rfl)
theorem Ty.t17 : TI Try.prog 17 (.pointer none) 1 8 := TI.of (by kernel_rfl)
theorem Ty.t18 : TI Try.prog 18 (.agg #[.pointer none]) 1 8 := TI.of (by kernel_rfl)
theorem Ty.t19 : TI Try.prog 19 (.agg #[.pointer none]) 1 8 := TI.of (by kernel_rfl)
theorem Ty.t20 : TI Try.prog 20 (.nilIface) 1 16 := TI.of (by kernel_rfl)
theorem Ty.t21 : TI Try.prog 21 (.int .i32 0) 1 4 := TI.of (by kernel_rfl)
theorem Ty.t22 : TI Try.prog 22 (.slice none 0 0) 1 24 := TI.of (by kernel_rfl)
theorem Ty.t23 : TI Try.prog 23 (.nilFunc) 1 8 := TI.of (by kernel_rfl)
theorem Ty.t24 : TI Try.prog 24 (.pointer none) 1 8 := TI.of (by kernel_rfl)
theorem Ty.t25 : TI Try.prog 25 (.nilFunc) 1 8 := TI.of (by kernel_rfl)
theorem Ty.t26 : TI Try.prog 26 (.slice none 0 0) 1 24 := TI.of (by kernel_rfl)
theorem Ty.t27 : TI Try.prog 27 (.slice none 0 0) 1 24 := TI.of (by kernel_rfl)
theorem Ty.t28 : TI Try.prog 28 (.agg #[.int .i64 0, .int .i64 0, .slice none 0 0]) 3 40 := TI.of (by kernel_rfl)
theorem Ty.t29 : TI Try.prog 29 (.agg #[.int .i64 0, .int .i64 0, .slice none 0 0]) 3 40 := TI.of (by kernel_rfl)
theorem Ty.t30 : TI Try.prog 30 (.agg #[.int .i64 0, .int .i64 0, .int .i64 0, .int .u8 0, .int .i64 0, .int .i64 0, .slice none 0 0]) 7 72 := TI.of (by kernel_rfl)
theorem Ty.t31 : TI Try.prog 31 (.agg #[.int .i64 0, .int .i64 0, .int .i64 0, .int .u8 0, .int .i64 0, .int .i64 0, .slice none 0 0]) 7 72 := TI.of (by kernel_rfl)
theorem Ty.t32 : TI Try.prog 32 (.nilFunc) 1 8 := TI.of (by kernel_rfl)
theorem Ty.t33 : TI Try.prog 33 (.nilFunc) 1 8 := TI.of (by kernel_rfl)
theorem Ty.t35 : TI Try.prog 35 (.nilFunc) 1 8 := TI.of (by kernel_rfl)
theorem Ty.t36 : TI Try.prog 36 (.nilFunc) 1 8 := TI.of (by kernel_rfl)
theorem Ty.t37 : TI Try.prog 37 (.nilFunc) 1 8 := TI.of (by kernel_rfl)
theorem Ty.t38 : TI Try.prog 38 (.nilFunc) 1 8 := TI.of (by kernel_rfl)
theorem Ty.t39 : TI Try.prog 39 (.nilFunc) 1 8 := TI.of (by kernel_rfl)
theorem Ty.t40 : TI Try.prog 40 (.nilFunc) 1 8 := TI.of (by kernel_rfl)
theorem Ty.t41 : TI Try.prog 41 (.nilFunc) 1 8 := TI.of (by kernel_rfl)
theorem Ty.t42 : TI Try.prog 42 (.slice none 0 0) 1 24 := TI.of (by kernel_rfl)
theorem Ty.t43 : TI Try.prog 43 (.nilFunc) 1 8 := TI.of (by kernel_rfl)
theorem Ty.t44 : TI Try.prog 44 (.nilFunc) 1 8 := TI.of (by kernel_rfl)
theorem Ty.t45 : TI Try.prog 45 (.agg #[.slice none 0 0]) 1 24 := TI.of (by kernel_rfl)
theorem Ty.t46 : TI Try.prog 46 (.agg #[.slice none 0 0]) 1 24 := TI.of (by kernel_rfl)
theorem Ty.t47 : TI Try.prog 47 (.nilFunc) 1 8 := TI.of (by kernel_rfl)
theorem Ty.t48 : TI Try.prog 48 (.nilFunc) 1 8 := TI.of (by kernel_rfl)
theorem Ty.t49 : TI Try.prog 49 (.nilFunc) 1 8 := TI.of (by kernel_rfl)
theorem Ty.t50 : TI Try.prog 50 (.nilFunc) 1 8 := TI.of (by kernel_rfl)
theorem Ty.t51 : TI Try.prog 51 (.agg #[.pointer none, .pointer none, .pointer none, .string ⟨#[]⟩]) 4 40 := TI.of (by kernel_rfl)
theorem Ty.t52 : TI Try.prog 52 (.agg #[.pointer none, .pointer none, .pointer none, .string ⟨#[]⟩]) 4 40 := TI.of (by kernel_rfl)
theorem Ty.t53 : TI Try.prog 53 (.agg #[]) 0 0 := TI.of (by kernel_rfl)
theorem Ty.t54 : TI Try.prog 54 (.agg #[]) 0 0 := TI.of (by kernel_rfl)
theorem Ty.t55 : TI Try.prog 55 (.agg #[]) 0 0 := TI.of (by kernel_rfl)
theorem Ty.t56 : TI Try.prog 56 (.int .u32 0) 1 4 := TI.of (by kernel_rfl)
theorem Ty.t57 : TI Try.prog 57 (.int .u8 0) 1 1 := TI.of (by kernel_rfl)
theorem Ty.t58 : TI Try.prog 58 (.int .u8 0) 1 1 := TI.of (by kernel_rfl)
theorem Ty.t59 : TI Try.prog 59 (.nilFunc) 1 8 := TI.of (by kernel_rfl)
theorem Ty.t60 : TI Try.prog 60 (.pointer none) 1 8 := TI.of (by kernel_rfl)
theorem Ty.t61 : TI Try.prog 61 (.int .i32 0) 1 4 := TI.of (by kernel_rfl)
theorem Ty.t62 : TI Try.prog 62 (.int .i32 0) 1 4 := TI.of (by kernel_rfl)
theorem Ty.t63 : TI Try.prog 63 (.agg #[.int .u64 0, .int .u64 0, .int .u32 0, .int .u8 0, .int .u8 0, .int .u8 0, .int .u8 0, .nilFunc, .pointer none, .int .i32 0, .int .i32 0]) 11 48 := TI.of (by kernel_rfl)
theorem Ty.t64 : TI Try.prog 64 (.agg #[.int .u64 0, .int .u64 0, .int .u32 0, .int .u8 0, .int .u8 0, .int .u8 0, .int .u8 0, .nilFunc, .pointer none, .int .i32 0, .int .i32 0]) 11 48 := TI.of (by kernel_rfl)
theorem Ty.t65 : TI Try.prog 65 (.pointer none) 1 8 := TI.of (by kernel_rfl)
theorem Ty.c2 : callable Try.prog 2 = true := by kernel_rfl
theorem Ty.c3 : callable Try.prog 3 = true := by kernel_rfl
theorem Ty.c4 : callable Try.prog 4 = true := by kernel_rfl
theorem Ty.c5 : callable Try.prog 5 = true := by kernel_rfl
theorem Ty.c6 : callable Try.prog 6 = true := by kernel_rfl
theorem Ty.c7 : callable Try.prog 7 = true := by kernel_rfl
theorem Ty.c8 : callable Try.prog 8 = true := by kernel_rfl
theorem Ty.c9 : callable Try.prog 9 = true := by kernel_rfl
theorem Ty.c10 : callable Try.prog 10 = true := by kernel_rfl
theorem Ty.c11 : callable Try.prog 11 = true := by kernel_rfl
theorem Ty.c12 : callable Try.prog 12 = true := by kernel_rfl
theorem Ty.c13 : callable Try.prog 13 = true := by kernel_rfl
theorem Ty.c14 : callable Try.prog 14 = true := by kernel_rfl
theorem Ty.c15 : callable Try.prog 15 = true := by kernel_rfl
theorem Ty.c16 : callable Try.prog 16 = true := by kernel_rfl
theorem Ty.c17 : callable Try.prog 17 = true := by kernel_rfl
theorem Ty.c18 : callable Try.prog 18 = true := by kernel_rfl
theorem Ty.c19 : callable Try.prog 19 = true := by kernel_rfl
theorem Ty.c20 : callable Try.prog 20 = true := by kernel_rfl
theorem Ty.c21 : callable Try.prog 21 = true := by kernel_rfl
theorem Ty.b7 : BuildT Try.prog 7 [(0, 1), (1, 1), (2, 1), (3, 1)] := ⟨_, Try.underlying7, fun w => by kernel_rfl⟩
theorem Ty.b8 : BuildT Try.prog 8 [(0, 1), (1, 1), (2, 1), (3, 1)] := ⟨_, Try.underlying8, fun w => by kernel_rfl⟩
theorem Ty.b13 : BuildT Try.prog 13 [(0, 1), (1, 1)] := ⟨_, Try.underlying13, fun w => by kernel_rfl⟩
theorem Ty.b14 : BuildT Try.prog 14 [(0, 1), (1, 1)] := ⟨_, Try.underlying14, fun w => by kernel_rfl⟩
theorem Ty.b18 : BuildT Try.prog 18 [(0, 1)] := ⟨_, Try.underlying18, fun w => by kernel_rfl⟩
theorem Ty.b19 : BuildT Try.prog 19 [(0, 1)] := ⟨_, Try.underlying19, fun w => by kernel_rfl⟩
theorem Ty.b28 : BuildT Try.prog 28 [(0, 1), (1, 1), (2, 1)] := ⟨_, Try.underlying28, fun w => by kernel_rfl⟩
theorem Ty.b29 : BuildT Try.prog 29 [(0, 1), (1, 1), (2, 1)] := ⟨_, Try.underlying29, fun w => by kernel_rfl⟩
theorem Ty.b30 : BuildT Try.prog 30 [(0, 1), (1, 1), (2, 1), (3, 1), (4, 3)] := ⟨_, Try.underlying30, fun w => by kernel_rfl⟩
theorem Ty.b31 : BuildT Try.prog 31 [(0, 1), (1, 1), (2, 1), (3, 1), (4, 3)] := ⟨_, Try.underlying31, fun w => by kernel_rfl⟩
theorem Ty.b45 : BuildT Try.prog 45 [(0, 1)] := ⟨_, Try.underlying45, fun w => by kernel_rfl⟩
theorem Ty.b46 : BuildT Try.prog 46 [(0, 1)] := ⟨_, Try.underlying46, fun w => by kernel_rfl⟩
theorem Ty.b51 : BuildT Try.prog 51 [(0, 1), (1, 1), (2, 1), (3, 1)] := ⟨_, Try.underlying51, fun w => by kernel_rfl⟩
theorem Ty.b52 : BuildT Try.prog 52 [(0, 1), (1, 1), (2, 1), (3, 1)] := ⟨_, Try.underlying52, fun w => by kernel_rfl⟩
theorem Ty.b54 : BuildT Try.prog 54 [(0, 0)] := ⟨_, Try.underlying54, fun w => by kernel_rfl⟩
theorem Ty.b55 : BuildT Try.prog 55 [(0, 0)] := ⟨_, Try.underlying55, fun w => by kernel_rfl⟩
theorem Ty.b63 : BuildT Try.prog 63 [(0, 1), (1, 1), (2, 1), (3, 1), (4, 1), (5, 1), (6, 1), (7, 1), (8, 1), (9, 1), (10, 1)] := ⟨_, Try.underlying63, fun w => by kernel_rfl⟩
theorem Ty.b64 : BuildT Try.prog 64 [(0, 1), (1, 1), (2, 1), (3, 1), (4, 1), (5, 1), (6, 1), (7, 1), (8, 1), (9, 1), (10, 1)] := ⟨_, Try.underlying64, fun w => by kernel_rfl⟩
theorem Ty.mixed : Try.prog.follows .mixedOrders = true := by kernel_rfl
end Go.Proofs.Ytjaiojfmcpbkbaa

