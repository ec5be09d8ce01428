/- The program's types and functions, as far as the steps ask for them. -/
import Derived.Test.YtpfblmpgljodmaaMore2
import Derived.Test.YtpfblmpgljodmaaRows
import Derived.KernelRfl
namespace Go.Proofs.Ytpfblmpgljodmaa
open Go.RowKit
theorem Ty.t1 : TI Try.prog 1 (.nilFunc) 1 8 := TI.of (by kernel_rfl)
theorem Ty.t2 : TI Try.prog 2 (.int .i64 0) 1 8 := TI.of (by kernel_rfl)
theorem Ty.t3 : TI Try.prog 3 (.int .i64 0) 1 8 := TI.of (by kernel_rfl)
theorem Ty.t4 : TI Try.prog 4 (.bool false) 1 1 := TI.of (by kernel_rfl)
theorem Ty.t5 : TI Try.prog 5 (.int .u8 0) 1 1 := TI.of (by kernel_rfl)
theorem Ty.t6 : TI Try.prog 6 (.int .u8 0) 1 1 := TI.of (by kernel_rfl)
theorem Ty.t7 : TI Try.prog 7 (.agg #[.int .i64 0, .int .i64 0, .bool false, .int .u8 0]) 4 24 := TI.of (by kernel_rfl)
theorem Ty.t8 : TI Try.prog 8 (.agg #[.int .i64 0, .int .i64 0, .bool false, .int .u8 0]) 4 24 := TI.of (by kernel_rfl)
theorem Ty.t9 : TI Try.prog 9 (.string ⟨#[]⟩) 1 16 := TI.of (by kernel_rfl)
theorem Ty.t10 : TI Try.prog 10 (.string ⟨#[]⟩) 1 16 := TI.of (by kernel_rfl)
theorem Ty.t11 : TI Try.prog 11 (.string ⟨#[]⟩) 1 16 := TI.of (by kernel_rfl)
theorem Ty.t12 : TI Try.prog 12 (.int .u64 0) 1 8 := TI.of (by kernel_rfl)
theorem Ty.t13 : TI Try.prog 13 (.agg #[.string ⟨#[]⟩, .int .u64 0]) 2 24 := TI.of (by kernel_rfl)
theorem Ty.t14 : TI Try.prog 14 (.agg #[.string ⟨#[]⟩, .int .u64 0]) 2 24 := TI.of (by kernel_rfl)
theorem Ty.t15 : TI Try.prog 15 (.pointer none) 1 8 := TI.of (by kernel_rfl)
theorem Ty.t16 : TI Try.prog 16 (.pointer none) 1 8 := TI.of (by kernel_rfl)
theorem Ty.t17 : TI Try.prog 17 (.pointer none) 1 8 := TI.of (by kernel_rfl)
theorem Ty.t18 : TI Try.prog 18 (.agg #[.pointer none]) 1 8 := TI.of (by kernel_rfl)
theorem Ty.t19 : TI Try.prog 19 (.agg #[.pointer none]) 1 8 := TI.of (by kernel_rfl)
theorem Ty.t20 : TI Try.prog 20 (.nilIface) 1 16 := TI.of (by kernel_rfl)
theorem Ty.t21 : TI Try.prog 21 (.int .i32 0) 1 4 := TI.of (by kernel_rfl)
theorem Ty.t22 : TI Try.prog 22 (.nilFunc) 1 8 := TI.of (by kernel_rfl)
theorem Ty.t23 : TI Try.prog 23 (.pointer none) 1 8 := TI.of (by kernel_rfl)
theorem Ty.t24 : TI Try.prog 24 (.nilFunc) 1 8 := TI.of (by kernel_rfl)
theorem Ty.t25 : TI Try.prog 25 (.int .i64 0) 1 8 := TI.of (by kernel_rfl)
theorem Ty.t27 : TI Try.prog 27 (.nilFunc) 1 8 := TI.of (by kernel_rfl)
theorem Ty.t28 : TI Try.prog 28 (.agg #[.int .i32 0, .int .i32 0, .int .i32 0, .int .i32 0, .int .i32 0, .int .i32 0, .int .i32 0, .int .i32 0, .int .i32 0, .int .i32 0, .int .i32 0, .int .i32 0, .int .i32 0, .int .i32 0, .int .i32 0, .int .i32 0, .int .i32 0, .int .i32 0, .int .i32 0, .int .i32 0, .int .i32 0, .int .i32 0, .int .i32 0, .int .i32 0, .int .i32 0, .int .i32 0, .int .i32 0, .int .i32 0, .int .i32 0, .int .i32 0, .int .i32 0, .int .i32 0]) 32 128 := TI.of (by kernel_rfl)
theorem Ty.t29 : TI Try.prog 29 (.agg #[.int .i32 0, .int .i32 0, .int .i32 0, .int .i32 0, .int .i32 0, .int .i32 0, .int .i32 0, .int .i32 0, .int .i32 0, .int .i32 0, .int .i32 0, .int .i32 0, .int .i32 0, .int .i32 0, .int .i32 0, .int .i32 0, .int .i32 0, .int .i32 0, .int .i32 0, .int .i32 0, .int .i32 0, .int .i32 0, .int .i32 0, .int .i32 0, .int .i32 0, .int .i32 0, .int .i32 0, .int .i32 0, .int .i32 0, .int .i32 0, .int .i32 0, .int .i32 0]) 32 128 := TI.of (by kernel_rfl)
theorem Ty.t30 : TI Try.prog 30 (.nilFunc) 1 8 := TI.of (by kernel_rfl)
theorem Ty.t31 : TI Try.prog 31 (.slice none 0 0) 1 24 := TI.of (by kernel_rfl)
theorem Ty.t32 : TI Try.prog 32 (.nilFunc) 1 8 := TI.of (by kernel_rfl)
theorem Ty.t33 : TI Try.prog 33 (.nilFunc) 1 8 := TI.of (by kernel_rfl)
theorem Ty.t35 : TI Try.prog 35 (.nilFunc) 1 8 := TI.of (by kernel_rfl)
theorem Ty.t36 : TI Try.prog 36 (.nilFunc) 1 8 := TI.of (by kernel_rfl)
theorem Ty.t37 : TI Try.prog 37 (.pointer none) 1 8 := TI.of (by kernel_rfl)
theorem Ty.t38 : TI Try.prog 38 (.nilFunc) 1 8 := TI.of (by kernel_rfl)
theorem Ty.t39 : TI Try.prog 39 (.nilFunc) 1 8 := TI.of (by kernel_rfl)
theorem Ty.t40 : TI Try.prog 40 (.nilFunc) 1 8 := TI.of (by kernel_rfl)
theorem Ty.t41 : TI Try.prog 41 (.nilFunc) 1 8 := TI.of (by kernel_rfl)
theorem Ty.t42 : TI Try.prog 42 (.slice none 0 0) 1 24 := TI.of (by kernel_rfl)
theorem Ty.t43 : TI Try.prog 43 (.nilFunc) 1 8 := TI.of (by kernel_rfl)
theorem Ty.t44 : TI Try.prog 44 (.nilFunc) 1 8 := TI.of (by kernel_rfl)
theorem Ty.t45 : TI Try.prog 45 (.slice none 0 0) 1 24 := TI.of (by kernel_rfl)
theorem Ty.t46 : TI Try.prog 46 (.agg #[.int .i32 0, .int .i32 0, .int .i32 0, .int .i32 0, .int .i32 0, .int .i32 0, .int .i32 0, .int .i32 0, .int .i32 0, .int .i32 0, .int .i32 0, .int .i32 0, .int .i32 0, .int .i32 0, .int .i32 0, .int .i32 0, .int .i32 0, .int .i32 0, .int .i32 0, .int .i32 0, .int .i32 0, .int .i32 0, .int .i32 0, .int .i32 0, .int .i32 0, .int .i32 0, .int .i32 0, .int .i32 0, .int .i32 0, .int .i32 0, .int .i32 0, .int .i32 0]) 32 128 := TI.of (by kernel_rfl)
theorem Ty.t48 : TI Try.prog 48 (.nilFunc) 1 8 := TI.of (by kernel_rfl)
theorem Ty.t49 : TI Try.prog 49 (.nilFunc) 1 8 := TI.of (by kernel_rfl)
theorem Ty.t50 : TI Try.prog 50 (.nilFunc) 1 8 := TI.of (by kernel_rfl)
theorem Ty.t51 : TI Try.prog 51 (.nilFunc) 1 8 := TI.of (by kernel_rfl)
theorem Ty.t52 : TI Try.prog 52 (.slice none 0 0) 1 24 := TI.of (by kernel_rfl)
theorem Ty.t53 : TI Try.prog 53 (.pointer none) 1 8 := TI.of (by kernel_rfl)
theorem Ty.t54 : TI Try.prog 54 (.slice none 0 0) 1 24 := TI.of (by kernel_rfl)
theorem Ty.t55 : TI Try.prog 55 (.agg #[.slice none 0 0, .int .i64 0, .int .i64 0]) 3 40 := TI.of (by kernel_rfl)
theorem Ty.t56 : TI Try.prog 56 (.agg #[.slice none 0 0, .int .i64 0, .int .i64 0]) 3 40 := TI.of (by kernel_rfl)
theorem Ty.t57 : TI Try.prog 57 (.nilFunc) 1 8 := TI.of (by kernel_rfl)
theorem Ty.t58 : TI Try.prog 58 (.agg #[.int .i64 0, .int .i64 0, .int .i64 0, .int .i32 0, .slice none 0 0]) 5 56 := TI.of (by kernel_rfl)
theorem Ty.t59 : TI Try.prog 59 (.agg #[.int .i64 0, .int .i64 0, .int .i64 0, .int .i32 0, .slice none 0 0]) 5 56 := TI.of (by kernel_rfl)
theorem Ty.t60 : TI Try.prog 60 (.nilFunc) 1 8 := TI.of (by kernel_rfl)
theorem Ty.t61 : TI Try.prog 61 (.nilFunc) 1 8 := TI.of (by kernel_rfl)
theorem Ty.t62 : TI Try.prog 62 (.nilFunc) 1 8 := TI.of (by kernel_rfl)
theorem Ty.t63 : TI Try.prog 63 (.nilFunc) 1 8 := TI.of (by kernel_rfl)
theorem Ty.t64 : TI Try.prog 64 (.map none) 1 8 := TI.of (by kernel_rfl)
theorem Ty.t65 : TI Try.prog 65 (.agg #[.pointer none, .map none, .int .i64 0]) 3 24 := TI.of (by kernel_rfl)
theorem Ty.t66 : TI Try.prog 66 (.agg #[.pointer none, .map none, .int .i64 0]) 3 24 := TI.of (by kernel_rfl)
theorem Ty.t67 : TI Try.prog 67 (.agg #[.int .i64 0, .int .i64 0, .int .i64 0, .int .i64 0]) 4 32 := TI.of (by kernel_rfl)
theorem Ty.t68 : TI Try.prog 68 (.agg #[.int .i64 0, .int .i64 0, .int .i64 0, .int .i64 0, .int .i64 0]) 5 40 := TI.of (by kernel_rfl)
theorem Ty.t69 : TI Try.prog 69 (.agg #[.int .i64 0, .int .i64 0, .int .i64 0, .int .i64 0, .int .i64 0]) 5 40 := TI.of (by kernel_rfl)
theorem Ty.t71 : TI Try.prog 71 (.nilFunc) 1 8 := TI.of (by kernel_rfl)
theorem Ty.t72 : TI Try.prog 72 (.agg #[.int .i32 0, .int .i32 0, .int .i32 0, .int .i32 0, .int .i32 0, .int .i32 0, .int .i32 0, .int .i32 0]) 8 32 := TI.of (by kernel_rfl)
theorem Ty.t73 : TI Try.prog 73 (.nilFunc) 1 8 := TI.of (by kernel_rfl)
theorem Ty.t74 : TI Try.prog 74 (.nilFunc) 1 8 := TI.of (by kernel_rfl)
theorem Ty.t75 : TI Try.prog 75 (.nilFunc) 1 8 := TI.of (by kernel_rfl)
theorem Ty.t76 : TI Try.prog 76 (.pointer none) 1 8 := TI.of (by kernel_rfl)
theorem Ty.t77 : TI Try.prog 77 (.nilFunc) 1 8 := TI.of (by kernel_rfl)
theorem Ty.t78 : TI Try.prog 78 (.pointer none) 1 8 := TI.of (by kernel_rfl)
theorem Ty.t79 : TI Try.prog 79 (.nilFunc) 1 8 := TI.of (by kernel_rfl)
theorem Ty.t80 : TI Try.prog 80 (.nilFunc) 1 8 := TI.of (by kernel_rfl)
theorem Ty.t81 : TI Try.prog 81 (.nilFunc) 1 8 := TI.of (by kernel_rfl)
theorem Ty.t82 : TI Try.prog 82 (.slice none 0 0) 1 24 := TI.of (by kernel_rfl)
theorem Ty.t83 : TI Try.prog 83 (.agg #[.slice none 0 0]) 1 24 := TI.of (by kernel_rfl)
theorem Ty.t84 : TI Try.prog 84 (.agg #[.slice none 0 0]) 1 24 := TI.of (by kernel_rfl)
theorem Ty.t85 : TI Try.prog 85 (.agg #[.int .i32 0, .int .i32 0, .int .i32 0, .int .i32 0, .int .i32 0, .int .i32 0, .int .i32 0, .int .i32 0, .int .i64 0]) 9 40 := TI.of (by kernel_rfl)
theorem Ty.t86 : TI Try.prog 86 (.agg #[.int .i32 0, .int .i32 0, .int .i32 0, .int .i32 0, .int .i32 0, .int .i32 0, .int .i32 0, .int .i32 0, .int .i64 0]) 9 40 := TI.of (by kernel_rfl)
theorem Ty.t87 : TI Try.prog 87 (.nilFunc) 1 8 := TI.of (by kernel_rfl)
theorem Ty.t88 : TI Try.prog 88 (.nilFunc) 1 8 := TI.of (by kernel_rfl)
theorem Ty.t89 : TI Try.prog 89 (.nilFunc) 1 8 := TI.of (by kernel_rfl)
theorem Ty.t90 : TI Try.prog 90 (.nilFunc) 1 8 := TI.of (by kernel_rfl)
theorem Ty.t91 : TI Try.prog 91 (.agg #[.int .i64 0, .int .i64 0, .int .i32 0, .int .i32 0, .int .i32 0, .int .i32 0, .int .i32 0, .int .i32 0, .int .i32 0, .int .i32 0, .int .i32 0, .int .i32 0, .int .i32 0, .int .i32 0, .int .i32 0, .int .i32 0, .int .i32 0, .int .i32 0, .int .i32 0, .int .i32 0, .int .i32 0, .int .i32 0, .int .i32 0, .int .i32 0, .int .i32 0, .int .i32 0, .int .i32 0, .int .i32 0, .int .i32 0, .int .i32 0, .int .i32 0, .int .i32 0, .int .i32 0, .int .i32 0, .int .i64 0, .int .i64 0, .int .i64 0, .int .i64 0]) 38 176 := TI.of (by kernel_rfl)
theorem Ty.t92 : TI Try.prog 92 (.agg #[.int .i64 0, .int .i64 0, .int .i32 0, .int .i32 0, .int .i32 0, .int .i32 0, .int .i32 0, .int .i32 0, .int .i32 0, .int .i32 0, .int .i32 0, .int .i32 0, .int .i32 0, .int .i32 0, .int .i32 0, .int .i32 0, .int .i32 0, .int .i32 0, .int .i32 0, .int .i32 0, .int .i32 0, .int .i32 0, .int .i32 0, .int .i32 0, .int .i32 0, .int .i32 0, .int .i32 0, .int .i32 0, .int .i32 0, .int .i32 0, .int .i32 0, .int .i32 0, .int .i32 0, .int .i32 0, .int .i64 0, .int .i64 0, .int .i64 0, .int .i64 0]) 38 176 := TI.of (by kernel_rfl)
theorem Ty.t93 : TI Try.prog 93 (.nilFunc) 1 8 := TI.of (by kernel_rfl)
theorem Ty.t94 : TI Try.prog 94 (.pointer none) 1 8 := TI.of (by kernel_rfl)
theorem Ty.t95 : TI Try.prog 95 (.nilFunc) 1 8 := TI.of (by kernel_rfl)
theorem Ty.t96 : TI Try.prog 96 (.nilFunc) 1 8 := TI.of (by kernel_rfl)
theorem Ty.t97 : TI Try.prog 97 (.nilFunc) 1 8 := TI.of (by kernel_rfl)
theorem Ty.t98 : TI Try.prog 98 (.nilFunc) 1 8 := TI.of (by kernel_rfl)
theorem Ty.t99 : TI Try.prog 99 (.nilFunc) 1 8 := TI.of (by kernel_rfl)
theorem Ty.t100 : TI Try.prog 100 (.int .u64 0) 1 8 := TI.of (by kernel_rfl)
theorem Ty.t101 : TI Try.prog 101 (.nilFunc) 1 8 := TI.of (by kernel_rfl)
theorem Ty.t102 : TI Try.prog 102 (.int .i64 0) 1 8 := TI.of (by kernel_rfl)
theorem Ty.t104 : TI Try.prog 104 (.nilFunc) 1 8 := TI.of (by kernel_rfl)
theorem Ty.t105 : TI Try.prog 105 (.nilFunc) 1 8 := TI.of (by kernel_rfl)
theorem Ty.t106 : TI Try.prog 106 (.nilFunc) 1 8 := TI.of (by kernel_rfl)
theorem Ty.t107 : TI Try.prog 107 (.nilFunc) 1 8 := TI.of (by kernel_rfl)
theorem Ty.t108 : TI Try.prog 108 (.nilFunc) 1 8 := TI.of (by kernel_rfl)
theorem Ty.t109 : TI Try.prog 109 (.nilFunc) 1 8 := TI.of (by kernel_rfl)
theorem Ty.t110 : TI Try.prog 110 (.int .u32 0) 1 4 := TI.of (by kernel_rfl)
theorem Ty.t111 : TI Try.prog 111 (.nilFunc) 1 8 := TI.of (by kernel_rfl)
theorem Ty.t112 : TI Try.prog 112 (.int .u64 0) 1 8 := TI.of (by kernel_rfl)
theorem Ty.t113 : TI Try.prog 113 (.int .u64 0) 1 8 := TI.of (by kernel_rfl)
theorem Ty.t114 : TI Try.prog 114 (.nilFunc) 1 8 := TI.of (by kernel_rfl)
theorem Ty.t115 : TI Try.prog 115 (.nilFunc) 1 8 := TI.of (by kernel_rfl)
theorem Ty.t116 : TI Try.prog 116 (.nilFunc) 1 8 := TI.of (by kernel_rfl)
theorem Ty.t117 : TI Try.prog 117 (.nilFunc) 1 8 := TI.of (by kernel_rfl)
theorem Ty.t118 : TI Try.prog 118 (.pointer none) 1 8 := TI.of (by kernel_rfl)
theorem Ty.t120 : TI Try.prog 120 (.nilFunc) 1 8 := TI.of (by kernel_rfl)
theorem Ty.t121 : TI Try.prog 121 (.nilFunc) 1 8 := TI.of (by kernel_rfl)
theorem Ty.t122 : TI Try.prog 122 (.agg #[.pointer none, .pointer none, .pointer none, .string ⟨#[]⟩]) 4 40 := TI.of (by kernel_rfl)
theorem Ty.t123 : TI Try.prog 123 (.agg #[.pointer none, .pointer none, .pointer none, .string ⟨#[]⟩]) 4 40 := TI.of (by kernel_rfl)
theorem Ty.t124 : TI Try.prog 124 (.agg #[]) 0 0 := TI.of (by kernel_rfl)
theorem Ty.t125 : TI Try.prog 125 (.agg #[]) 0 0 := TI.of (by kernel_rfl)
theorem Ty.t126 : TI Try.prog 126 (.agg #[]) 0 0 := TI.of (by kernel_rfl)
theorem Ty.t127 : TI Try.prog 127 (.int .u8 0) 1 1 := TI.of (by kernel_rfl)
theorem Ty.t128 : TI Try.prog 128 (.int .u8 0) 1 1 := TI.of (by kernel_rfl)
theorem Ty.t129 : TI Try.prog 129 (.nilFunc) 1 8 := TI.of (by kernel_rfl)
theorem Ty.t130 : TI Try.prog 130 (.pointer none) 1 8 := TI.of (by kernel_rfl)
theorem Ty.t131 : TI Try.prog 131 (.int .i32 0) 1 4 := TI.of (by kernel_rfl)
theorem Ty.t132 : TI Try.prog 132 (.int .i32 0) 1 4 := TI.of (by kernel_rfl)
theorem Ty.t133 : TI Try.prog 133 (.agg #[.int .u64 0, .int .u64 0, .int .u32 0, .int .u8 0, .int .u8 0, .int .u8 0, .int .u8 0, .nilFunc, .pointer none, .int .i32 0, .int .i32 0]) 11 48 := TI.of (by kernel_rfl)
theorem Ty.t134 : TI Try.prog 134 (.agg #[.int .u64 0, .int .u64 0, .int .u32 0, .int .u8 0, .int .u8 0, .int .u8 0, .int .u8 0, .nilFunc, .pointer none, .int .i32 0, .int .i32 0]) 11 48 := TI.of (by kernel_rfl)
theorem Ty.t135 : TI Try.prog 135 (.nilFunc) 1 8 := TI.of (by kernel_rfl)
theorem Ty.t136 : TI Try.prog 136 (.pointer none) 1 8 := TI.of (by kernel_rfl)
theorem Ty.c2 : callable Try.prog 2 = true := by kernel_rfl
theorem Ty.c3 : callable Try.prog 3 = true := by kernel_rfl
theorem Ty.c4 : callable Try.prog 4 = true := by kernel_rfl
theorem Ty.c5 : callable Try.prog 5 = true := by kernel_rfl
theorem Ty.c6 : callable Try.prog 6 = true := by kernel_rfl
theorem Ty.c7 : callable Try.prog 7 = true := by kernel_rfl
theorem Ty.c8 : callable Try.prog 8 = true := by kernel_rfl
theorem Ty.c9 : callable Try.prog 9 = true := by kernel_rfl
theorem Ty.c10 : callable Try.prog 10 = true := by kernel_rfl
theorem Ty.c11 : callable Try.prog 11 = true := by kernel_rfl
theorem Ty.c12 : callable Try.prog 12 = true := by kernel_rfl
theorem Ty.c13 : callable Try.prog 13 = true := by kernel_rfl
theorem Ty.c14 : callable Try.prog 14 = true := by kernel_rfl
theorem Ty.c15 : callable Try.prog 15 = true := by kernel_rfl
theorem Ty.c16 : callable Try.prog 16 = true := by kernel_rfl
theorem Ty.c17 : callable Try.prog 17 = true := by kernel_rfl
theorem Ty.c18 : callable Try.prog 18 = true := by kernel_rfl
theorem Ty.c19 : callable Try.prog 19 = true := by kernel_rfl
theorem Ty.c20 : callable Try.prog 20 = true := by kernel_rfl
theorem Ty.c21 : callable Try.prog 21 = true := by kernel_rfl
theorem Ty.c22 : callable Try.prog 22 = true := by kernel_rfl
theorem Ty.c23 : callable Try.prog 23 = true := by kernel_rfl
theorem Ty.c24 : callable Try.prog 24 = true := by kernel_rfl
theorem Ty.c25 : callable Try.prog 25 = true := by kernel_rfl
theorem Ty.c26 : callable Try.prog 26 = true := by kernel_rfl
theorem Ty.c27 : callable Try.prog 27 = true := by kernel_rfl
theorem Ty.c28 : callable Try.prog 28 = true := by kernel_rfl
theorem Ty.c29 : callable Try.prog 29 = true := by kernel_rfl
theorem Ty.c30 : callable Try.prog 30 = true := by kernel_rfl
theorem Ty.c31 : callable Try.prog 31 = true := by kernel_rfl
theorem Ty.c32 : callable Try.prog 32 = true := by kernel_rfl
theorem Ty.c33 : callable Try.prog 33 = true := by kernel_rfl
theorem Ty.c34 : callable Try.prog 34 = true := by kernel_rfl
theorem Ty.c35 : callable Try.prog 35 = true := by kernel_rfl
theorem Ty.c36 : callable Try.prog 36 = true := by kernel_rfl
theorem Ty.c37 : callable Try.prog 37 = true := by kernel_rfl
theorem Ty.c38 : callable Try.prog 38 = true := by kernel_rfl
theorem Ty.c39 : callable Try.prog 39 = true := by kernel_rfl
theorem Ty.c40 : callable Try.prog 40 = true := by kernel_rfl
theorem Ty.c41 : callable Try.prog 41 = true := by kernel_rfl
theorem Ty.c42 : callable Try.prog 42 = true := by kernel_rfl
theorem Ty.c43 : callable Try.prog 43 = true := by kernel_rfl
theorem Ty.c44 : callable Try.prog 44 = true := by kernel_rfl
theorem Ty.c45 : callable Try.prog 45 = true := by kernel_rfl
theorem Ty.c46 : callable Try.prog 46 = true := by kernel_rfl
theorem Ty.c47 : callable Try.prog 47 = true := by kernel_rfl
theorem Ty.c48 : callable Try.prog 48 = true := by kernel_rfl
theorem Ty.c49 : callable Try.prog 49 = true := by kernel_rfl
theorem Ty.c50 : callable Try.prog 50 = true := by kernel_rfl
theorem Ty.c51 : callable Try.prog 51 = true := by kernel_rfl
theorem Ty.c52 : callable Try.prog 52 = true := by kernel_rfl
theorem Ty.c53 : callable Try.prog 53 = true := by kernel_rfl
theorem Ty.c54 : callable Try.prog 54 = true := by kernel_rfl
theorem Ty.c55 : callable Try.prog 55 = true := by kernel_rfl
theorem Ty.c56 : callable Try.prog 56 = true := by kernel_rfl
theorem Ty.c57 : callable Try.prog 57 = true := by kernel_rfl
theorem Ty.c58 : callable Try.prog 58 = true := by kernel_rfl
theorem Ty.c59 : callable Try.prog 59 = true := by kernel_rfl
theorem Ty.c60 : callable Try.prog 60 = true := by kernel_rfl
theorem Ty.c61 : callable Try.prog 61 = true := by kernel_rfl
theorem Ty.c62 : callable Try.prog 62 = true := by kernel_rfl
theorem Ty.c63 : callable Try.prog 63 = true := by kernel_rfl
theorem Ty.c64 : callable Try.prog 64 = true := by kernel_rfl
theorem Ty.c65 : callable Try.prog 65 = true := by kernel_rfl
theorem Ty.c66 : callable Try.prog 66 = true := by kernel_rfl
theorem Ty.c67 : callable Try.prog 67 = true := by kernel_rfl
theorem Ty.c68 : callable Try.prog 68 = true := by kernel_rfl
theorem Ty.c69 : callable Try.prog 69 = true := by kernel_rfl
theorem Ty.c70 : callable Try.prog 70 = true := by kernel_rfl
theorem Ty.c71 : callable Try.prog 71 = true := by kernel_rfl
theorem Ty.b7 : BuildT Try.prog 7 [(0, 1), (1, 1), (2, 1), (3, 1)] := ⟨_, Try.underlying7, fun w => by kernel_rfl⟩
theorem Ty.b8 : BuildT Try.prog 8 [(0, 1), (1, 1), (2, 1), (3, 1)] := ⟨_, Try.underlying8, fun w => by kernel_rfl⟩
theorem Ty.b13 : BuildT Try.prog 13 [(0, 1), (1, 1)] := ⟨_, Try.underlying13, fun w => by kernel_rfl⟩
theorem Ty.b14 : BuildT Try.prog 14 [(0, 1), (1, 1)] := ⟨_, Try.underlying14, fun w => by kernel_rfl⟩
theorem Ty.b18 : BuildT Try.prog 18 [(0, 1)] := ⟨_, Try.underlying18, fun w => by kernel_rfl⟩
theorem Ty.b19 : BuildT Try.prog 19 [(0, 1)] := ⟨_, Try.underlying19, fun w => by kernel_rfl⟩
theorem Ty.b55 : BuildT Try.prog 55 [(0, 1), (1, 1), (2, 1)] := ⟨_, Try.underlying55, fun w => by kernel_rfl⟩
theorem Ty.b56 : BuildT Try.prog 56 [(0, 1), (1, 1), (2, 1)] := ⟨_, Try.underlying56, fun w => by kernel_rfl⟩
theorem Ty.b58 : BuildT Try.prog 58 [(0, 1), (1, 1), (2, 1), (3, 1), (4, 1)] := ⟨_, Try.underlying58, fun w => by kernel_rfl⟩
theorem Ty.b59 : BuildT Try.prog 59 [(0, 1), (1, 1), (2, 1), (3, 1), (4, 1)] := ⟨_, Try.underlying59, fun w => by kernel_rfl⟩
theorem Ty.b65 : BuildT Try.prog 65 [(0, 1), (1, 1), (2, 1)] := ⟨_, Try.underlying65, fun w => by kernel_rfl⟩
theorem Ty.b66 : BuildT Try.prog 66 [(0, 1), (1, 1), (2, 1)] := ⟨_, Try.underlying66, fun w => by kernel_rfl⟩
theorem Ty.b68 : BuildT Try.prog 68 [(0, 4), (4, 1)] := ⟨_, Try.underlying68, fun w => by kernel_rfl⟩
theorem Ty.b69 : BuildT Try.prog 69 [(0, 4), (4, 1)] := ⟨_, Try.underlying69, fun w => by kernel_rfl⟩
theorem Ty.b83 : BuildT Try.prog 83 [(0, 1)] := ⟨_, Try.underlying83, fun w => by kernel_rfl⟩
theorem Ty.b84 : BuildT Try.prog 84 [(0, 1)] := ⟨_, Try.underlying84, fun w => by kernel_rfl⟩
theorem Ty.b85 : BuildT Try.prog 85 [(0, 8), (8, 1)] := ⟨_, Try.underlying85, fun w => by kernel_rfl⟩
theorem Ty.b86 : BuildT Try.prog 86 [(0, 8), (8, 1)] := ⟨_, Try.underlying86, fun w => by kernel_rfl⟩
theorem Ty.b91 : BuildT Try.prog 91 [(0, 1), (1, 1), (2, 32), (34, 4)] := ⟨_, Try.underlying91, fun w => by kernel_rfl⟩
theorem Ty.b92 : BuildT Try.prog 92 [(0, 1), (1, 1), (2, 32), (34, 4)] := ⟨_, Try.underlying92, fun w => by kernel_rfl⟩
theorem Ty.b122 : BuildT Try.prog 122 [(0, 1), (1, 1), (2, 1), (3, 1)] := ⟨_, Try.underlying122, fun w => by kernel_rfl⟩
theorem Ty.b123 : BuildT Try.prog 123 [(0, 1), (1, 1), (2, 1), (3, 1)] := ⟨_, Try.underlying123, fun w => by kernel_rfl⟩
theorem Ty.b125 : BuildT Try.prog 125 [(0, 0)] := ⟨_, Try.underlying125, fun w => by kernel_rfl⟩
theorem Ty.b126 : BuildT Try.prog 126 [(0, 0)] := ⟨_, Try.underlying126, fun w => by kernel_rfl⟩
theorem Ty.b133 : BuildT Try.prog 133 [(0, 1), (1, 1), (2, 1), (3, 1), (4, 1), (5, 1), (6, 1), (7, 1), (8, 1), (9, 1), (10, 1)] := ⟨_, Try.underlying133, fun w => by kernel_rfl⟩
theorem Ty.b134 : BuildT Try.prog 134 [(0, 1), (1, 1), (2, 1), (3, 1), (4, 1), (5, 1), (6, 1), (7, 1), (8, 1), (9, 1), (10, 1)] := ⟨_, Try.underlying134, fun w => by kernel_rfl⟩
theorem Ty.mixed : Try.prog.follows .mixedOrders = true := by kernel_rfl
end Go.Proofs.Ytpfblmpgljodmaa

