/- The program's types and functions, as far as the steps ask for them. -/
import Derived.Test.YtneafbkhaooelaaGreatFast
import Derived.Test.YtneafbkhaooelaaGreatRows
import Derived.KernelRfl
namespace Go.Proofs.YtneafbkhaooelaaGreat
open Go.RowKit
theorem Ty.t1 : TI Tryz.prog 1 (.nilFunc) 1 8 := TI.of (by kernel_rfl)
theorem Ty.t2 : TI Tryz.prog 2 (.int .i64 0) 1 8 := TI.of (by kernel_rfl)
theorem Ty.t3 : TI Tryz.prog 3 (.int .i64 0) 1 8 := TI.of (by kernel_rfl)
theorem Ty.t4 : TI Tryz.prog 4 (.bool false) 1 1 := TI.of (by kernel_rfl)
theorem Ty.t5 : TI Tryz.prog 5 (.int .u8 0) 1 1 := TI.of (by kernel_rfl)
theorem Ty.t6 : TI Tryz.prog 6 (.int .u8 0) 1 1 := TI.of (by kernel_rfl)
theorem Ty.t7 : TI Tryz.prog 7 (.agg #[.int .i64 0, .int .i64 0, .bool false, .int .u8 0]) 4 24 := TI.of (by kernel_rfl)
theorem Ty.t8 : TI Tryz.prog 8 (.agg #[.int .i64 0, .int .i64 0, .bool false, .int .u8 0]) 4 24 := TI.of (by kernel_rfl)
theorem Ty.t9 : TI Tryz.prog 9 (.string ⟨#[]⟩) 1 16 := TI.of (by kernel_rfl)
theorem Ty.t10 : TI Tryz.prog 10 (.string ⟨#[]⟩) 1 16 := TI.of (by kernel_rfl)
theorem Ty.t11 : TI Tryz.prog 11 (.string ⟨#[]⟩) 1 16 := TI.of (by kernel_rfl)
theorem Ty.t12 : TI Tryz.prog 12 (.int .u64 0) 1 8 := TI.of (by kernel_rfl)
theorem Ty.t13 : TI Tryz.prog 13 (.agg #[.string ⟨#[]⟩, .int .u64 0]) 2 24 := TI.of (by kernel_rfl)
theorem Ty.t14 : TI Tryz.prog 14 (.agg #[.string ⟨#[]⟩, .int .u64 0]) 2 24 := TI.of (by kernel_rfl)
theorem Ty.t15 : TI Tryz.prog 15 (.pointer none) 1 8 := TI.of (by kernel_rfl)
theorem Ty.t16 : TI Tryz.prog 16 (.pointer none) 1 8 := TI.of (by kernel_rfl)
theorem Ty.t17 : TI Tryz.prog 17 (.pointer none) 1 8 := TI.of (by kernel_rfl)
theorem Ty.t18 : TI Tryz.prog 18 (.agg #[.pointer none]) 1 8 := TI.of (by kernel_rfl)
theorem Ty.t19 : TI Tryz.prog 19 (.agg #[.pointer none]) 1 8 := TI.of (by kernel_rfl)
theorem Ty.t20 : TI Tryz.prog 20 (.nilIface) 1 16 := TI.of (by kernel_rfl)
theorem Ty.t21 : TI Tryz.prog 21 (.int .i32 0) 1 4 := TI.of (by kernel_rfl)
theorem Ty.t22 : TI Tryz.prog 22 (.slice none 0 0) 1 24 := TI.of (by kernel_rfl)
theorem Ty.t23 : TI Tryz.prog 23 (.agg #[.string ⟨#[]⟩, .slice none 0 0]) 2 40 := TI.of (by kernel_rfl)
theorem Ty.t24 : TI Tryz.prog 24 (.agg #[.string ⟨#[]⟩, .slice none 0 0]) 2 40 := TI.of (by kernel_rfl)
theorem Ty.t25 : TI Tryz.prog 25 (.slice none 0 0) 1 24 := TI.of (by kernel_rfl)
theorem Ty.t26 : TI Tryz.prog 26 (.nilFunc) 1 8 := TI.of (by kernel_rfl)
theorem Ty.t27 : TI Tryz.prog 27 (.nilFunc) 1 8 := TI.of (by kernel_rfl)
theorem Ty.t28 : TI Tryz.prog 28 (.nilFunc) 1 8 := TI.of (by kernel_rfl)
theorem Ty.t29 : TI Tryz.prog 29 (.pointer none) 1 8 := TI.of (by kernel_rfl)
theorem Ty.t30 : TI Tryz.prog 30 (.nilFunc) 1 8 := TI.of (by kernel_rfl)
theorem Ty.t31 : TI Tryz.prog 31 (.pointer none) 1 8 := TI.of (by kernel_rfl)
theorem Ty.t32 : TI Tryz.prog 32 (.pointer none) 1 8 := TI.of (by kernel_rfl)
theorem Ty.t33 : TI Tryz.prog 33 (.pointer none) 1 8 := TI.of (by kernel_rfl)
theorem Ty.t34 : TI Tryz.prog 34 (.pointer none) 1 8 := TI.of (by kernel_rfl)
theorem Ty.t35 : TI Tryz.prog 35 (.slice none 0 0) 1 24 := TI.of (by kernel_rfl)
theorem Ty.t36 : TI Tryz.prog 36 (.int .i64 0) 1 8 := TI.of (by kernel_rfl)
theorem Ty.t37 : TI Tryz.prog 37 (.agg #[.pointer none, .pointer none, .pointer none, .slice none 0 0, .int .i64 0]) 5 56 := TI.of (by kernel_rfl)
theorem Ty.t38 : TI Tryz.prog 38 (.agg #[.pointer none, .pointer none, .pointer none, .slice none 0 0, .int .i64 0]) 5 56 := TI.of (by kernel_rfl)
theorem Ty.t39 : TI Tryz.prog 39 (.slice none 0 0) 1 24 := TI.of (by kernel_rfl)
theorem Ty.t40 : TI Tryz.prog 40 (.nilFunc) 1 8 := TI.of (by kernel_rfl)
theorem Ty.t41 : TI Tryz.prog 41 (.slice none 0 0) 1 24 := TI.of (by kernel_rfl)
theorem Ty.t42 : TI Tryz.prog 42 (.agg #[.int .i64 0, .int .i64 0, .slice none 0 0, .int .i64 0, .int .i64 0]) 5 56 := TI.of (by kernel_rfl)
theorem Ty.t43 : TI Tryz.prog 43 (.agg #[.int .i64 0, .int .i64 0, .slice none 0 0, .int .i64 0, .int .i64 0]) 5 56 := TI.of (by kernel_rfl)
theorem Ty.t44 : TI Tryz.prog 44 (.nilFunc) 1 8 := TI.of (by kernel_rfl)
theorem Ty.t45 : TI Tryz.prog 45 (.nilFunc) 1 8 := TI.of (by kernel_rfl)
theorem Ty.t46 : TI Tryz.prog 46 (.nilFunc) 1 8 := TI.of (by kernel_rfl)
theorem Ty.t47 : TI Tryz.prog 47 (.slice none 0 0) 1 24 := TI.of (by kernel_rfl)
theorem Ty.t48 : TI Tryz.prog 48 (.nilFunc) 1 8 := TI.of (by kernel_rfl)
theorem Ty.t49 : TI Tryz.prog 49 (.slice none 0 0) 1 24 := TI.of (by kernel_rfl)
theorem Ty.t50 : TI Tryz.prog 50 (.nilFunc) 1 8 := TI.of (by kernel_rfl)
theorem Ty.t51 : TI Tryz.prog 51 (.nilFunc) 1 8 := TI.of (by kernel_rfl)
theorem Ty.t52 : TI Tryz.prog 52 (.nilFunc) 1 8 := TI.of (by kernel_rfl)
theorem Ty.t53 : TI Tryz.prog 53 (.nilFunc) 1 8 := TI.of (by kernel_rfl)
theorem Ty.t54 : TI Tryz.prog 54 (.slice none 0 0) 1 24 := TI.of (by kernel_rfl)
theorem Ty.t55 : TI Tryz.prog 55 (.nilFunc) 1 8 := TI.of (by kernel_rfl)
theorem Ty.t56 : TI Tryz.prog 56 (.pointer none) 1 8 := TI.of (by kernel_rfl)
theorem Ty.t57 : TI Tryz.prog 57 (.nilFunc) 1 8 := TI.of (by kernel_rfl)
theorem Ty.t58 : TI Tryz.prog 58 (.nilFunc) 1 8 := TI.of (by kernel_rfl)
theorem Ty.t59 : TI Tryz.prog 59 (.agg #[.int .i64 0, .int .i64 0, .int .i64 0, .int .i64 0]) 4 32 := TI.of (by kernel_rfl)
theorem Ty.t60 : TI Tryz.prog 60 (.agg #[.int .i64 0, .int .i64 0, .int .i64 0, .int .i64 0]) 4 32 := TI.of (by kernel_rfl)
theorem Ty.t61 : TI Tryz.prog 61 (.agg #[.int .i32 0, .int .i32 0, .int .i32 0, .int .i32 0, .int .i32 0, .int .i32 0, .int .i32 0, .int .i32 0, .int .i32 0, .int .i32 0, .int .i32 0, .int .i32 0, .int .i32 0, .int .i32 0, .int .i32 0, .int .i32 0, .int .i32 0, .int .i32 0, .int .i32 0, .int .i32 0, .int .i32 0, .int .i32 0, .int .i32 0, .int .i32 0, .int .i32 0, .int .i32 0, .int .i32 0, .int .i32 0, .int .i32 0, .int .i32 0, .int .i32 0, .int .i32 0]) 32 128 := TI.of (by kernel_rfl)
theorem Ty.t62 : TI Tryz.prog 62 (.agg #[.int .i32 0, .int .i32 0, .int .i32 0, .int .i32 0, .int .i32 0, .int .i32 0, .int .i32 0, .int .i32 0, .int .i32 0, .int .i32 0, .int .i32 0, .int .i32 0, .int .i32 0, .int .i32 0, .int .i32 0, .int .i32 0, .int .i32 0, .int .i32 0, .int .i32 0, .int .i32 0, .int .i32 0, .int .i32 0, .int .i32 0, .int .i32 0, .int .i32 0, .int .i32 0, .int .i32 0, .int .i32 0, .int .i32 0, .int .i32 0, .int .i32 0, .int .i32 0]) 32 128 := TI.of (by kernel_rfl)
theorem Ty.t64 : TI Tryz.prog 64 (.nilFunc) 1 8 := TI.of (by kernel_rfl)
theorem Ty.t65 : TI Tryz.prog 65 (.nilFunc) 1 8 := TI.of (by kernel_rfl)
theorem Ty.t66 : TI Tryz.prog 66 (.nilFunc) 1 8 := TI.of (by kernel_rfl)
theorem Ty.t67 : TI Tryz.prog 67 (.nilFunc) 1 8 := TI.of (by kernel_rfl)
theorem Ty.t68 : TI Tryz.prog 68 (.nilFunc) 1 8 := TI.of (by kernel_rfl)
theorem Ty.t69 : TI Tryz.prog 69 (.nilFunc) 1 8 := TI.of (by kernel_rfl)
theorem Ty.t71 : TI Tryz.prog 71 (.nilFunc) 1 8 := TI.of (by kernel_rfl)
theorem Ty.t73 : TI Tryz.prog 73 (.nilFunc) 1 8 := TI.of (by kernel_rfl)
theorem Ty.t74 : TI Tryz.prog 74 (.nilFunc) 1 8 := TI.of (by kernel_rfl)
theorem Ty.t75 : TI Tryz.prog 75 (.nilFunc) 1 8 := TI.of (by kernel_rfl)
theorem Ty.t76 : TI Tryz.prog 76 (.agg #[.int .i64 0, .int .i64 0]) 2 16 := TI.of (by kernel_rfl)
theorem Ty.t77 : TI Tryz.prog 77 (.agg #[.int .i64 0, .int .i64 0]) 2 16 := TI.of (by kernel_rfl)
theorem Ty.t78 : TI Tryz.prog 78 (.nilFunc) 1 8 := TI.of (by kernel_rfl)
theorem Ty.t79 : TI Tryz.prog 79 (.agg #[.string ⟨#[]⟩, .slice none 0 0, .pointer none, .pointer none, .pointer none, .bool false, .int .i64 0, .int .i64 0, .int .i64 0, .int .i64 0, .bool false]) 11 112 := TI.of (by kernel_rfl)
theorem Ty.t80 : TI Tryz.prog 80 (.agg #[.string ⟨#[]⟩, .slice none 0 0, .pointer none, .pointer none, .pointer none, .bool false, .int .i64 0, .int .i64 0, .int .i64 0, .int .i64 0, .bool false]) 11 112 := TI.of (by kernel_rfl)
theorem Ty.t82 : TI Tryz.prog 82 (.nilFunc) 1 8 := TI.of (by kernel_rfl)
theorem Ty.t83 : TI Tryz.prog 83 (.nilFunc) 1 8 := TI.of (by kernel_rfl)
theorem Ty.t84 : TI Tryz.prog 84 (.agg #[.pointer none, .int .i64 0, .slice none 0 0, .int .i64 0, .int .i64 0]) 5 56 := TI.of (by kernel_rfl)
theorem Ty.t85 : TI Tryz.prog 85 (.agg #[.pointer none, .int .i64 0, .slice none 0 0, .int .i64 0, .int .i64 0]) 5 56 := TI.of (by kernel_rfl)
theorem Ty.t86 : TI Tryz.prog 86 (.nilFunc) 1 8 := TI.of (by kernel_rfl)
theorem Ty.t87 : TI Tryz.prog 87 (.agg #[.int .i32 0, .int .i32 0, .int .i32 0, .int .i32 0, .int .i32 0, .int .i32 0, .int .i32 0, .int .i32 0, .int .i32 0, .int .i32 0, .int .i32 0, .int .i32 0, .int .i32 0, .int .i32 0, .int .i32 0, .int .i32 0, .int .i32 0, .int .i32 0, .int .i32 0, .int .i32 0, .int .i32 0, .int .i32 0, .int .i32 0, .int .i32 0, .int .i32 0, .int .i32 0, .int .i32 0, .int .i32 0, .int .i32 0, .int .i32 0, .int .i32 0, .int .i32 0]) 32 128 := TI.of (by kernel_rfl)
theorem Ty.t88 : TI Tryz.prog 88 (.nilFunc) 1 8 := TI.of (by kernel_rfl)
theorem Ty.t89 : TI Tryz.prog 89 (.slice none 0 0) 1 24 := TI.of (by kernel_rfl)
theorem Ty.t90 : TI Tryz.prog 90 (.agg #[.slice none 0 0]) 1 24 := TI.of (by kernel_rfl)
theorem Ty.t91 : TI Tryz.prog 91 (.agg #[.slice none 0 0]) 1 24 := TI.of (by kernel_rfl)
theorem Ty.t92 : TI Tryz.prog 92 (.nilFunc) 1 8 := TI.of (by kernel_rfl)
theorem Ty.t93 : TI Tryz.prog 93 (.nilFunc) 1 8 := TI.of (by kernel_rfl)
theorem Ty.t94 : TI Tryz.prog 94 (.nilFunc) 1 8 := TI.of (by kernel_rfl)
theorem Ty.t95 : TI Tryz.prog 95 (.nilFunc) 1 8 := TI.of (by kernel_rfl)
theorem Ty.t96 : TI Tryz.prog 96 (.pointer none) 1 8 := TI.of (by kernel_rfl)
theorem Ty.t97 : TI Tryz.prog 97 (.nilFunc) 1 8 := TI.of (by kernel_rfl)
theorem Ty.t98 : TI Tryz.prog 98 (.agg #[.int .i64 0, .int .i64 0, .int .i64 0, .int .i64 0]) 4 32 := TI.of (by kernel_rfl)
theorem Ty.t99 : TI Tryz.prog 99 (.agg #[.int .i64 0, .int .i64 0, .int .i64 0, .int .i64 0, .int .i64 0]) 5 40 := TI.of (by kernel_rfl)
theorem Ty.t100 : TI Tryz.prog 100 (.agg #[.int .i64 0, .int .i64 0, .int .i64 0, .int .i64 0, .int .i64 0]) 5 40 := TI.of (by kernel_rfl)
theorem Ty.t101 : TI Tryz.prog 101 (.map none) 1 8 := TI.of (by kernel_rfl)
theorem Ty.t102 : TI Tryz.prog 102 (.agg #[.pointer none, .map none, .int .i64 0]) 3 24 := TI.of (by kernel_rfl)
theorem Ty.t103 : TI Tryz.prog 103 (.agg #[.pointer none, .map none, .int .i64 0]) 3 24 := TI.of (by kernel_rfl)
theorem Ty.t104 : TI Tryz.prog 104 (.nilFunc) 1 8 := TI.of (by kernel_rfl)
theorem Ty.t105 : TI Tryz.prog 105 (.nilFunc) 1 8 := TI.of (by kernel_rfl)
theorem Ty.t106 : TI Tryz.prog 106 (.nilFunc) 1 8 := TI.of (by kernel_rfl)
theorem Ty.t107 : TI Tryz.prog 107 (.nilFunc) 1 8 := TI.of (by kernel_rfl)
theorem Ty.t108 : TI Tryz.prog 108 (.nilFunc) 1 8 := TI.of (by kernel_rfl)
theorem Ty.t109 : TI Tryz.prog 109 (.slice none 0 0) 1 24 := TI.of (by kernel_rfl)
theorem Ty.t110 : TI Tryz.prog 110 (.agg #[.slice none 0 0]) 1 24 := TI.of (by kernel_rfl)
theorem Ty.t111 : TI Tryz.prog 111 (.agg #[.slice none 0 0]) 1 24 := TI.of (by kernel_rfl)
theorem Ty.t112 : TI Tryz.prog 112 (.agg #[.int .i32 0, .int .i32 0, .int .i32 0, .int .i32 0, .int .i32 0, .int .i32 0, .int .i32 0, .int .i32 0]) 8 32 := TI.of (by kernel_rfl)
theorem Ty.t113 : TI Tryz.prog 113 (.agg #[.int .i32 0, .int .i32 0, .int .i32 0, .int .i32 0, .int .i32 0, .int .i32 0, .int .i32 0, .int .i32 0, .int .i64 0]) 9 40 := TI.of (by kernel_rfl)
theorem Ty.t114 : TI Tryz.prog 114 (.agg #[.int .i32 0, .int .i32 0, .int .i32 0, .int .i32 0, .int .i32 0, .int .i32 0, .int .i32 0, .int .i32 0, .int .i64 0]) 9 40 := TI.of (by kernel_rfl)
theorem Ty.t116 : TI Tryz.prog 116 (.nilFunc) 1 8 := TI.of (by kernel_rfl)
theorem Ty.t117 : TI Tryz.prog 117 (.nilFunc) 1 8 := TI.of (by kernel_rfl)
theorem Ty.t118 : TI Tryz.prog 118 (.nilFunc) 1 8 := TI.of (by kernel_rfl)
theorem Ty.t119 : TI Tryz.prog 119 (.nilFunc) 1 8 := TI.of (by kernel_rfl)
theorem Ty.t121 : TI Tryz.prog 121 (.nilFunc) 1 8 := TI.of (by kernel_rfl)
theorem Ty.t122 : TI Tryz.prog 122 (.nilFunc) 1 8 := TI.of (by kernel_rfl)
theorem Ty.t123 : TI Tryz.prog 123 (.nilFunc) 1 8 := TI.of (by kernel_rfl)
theorem Ty.t124 : TI Tryz.prog 124 (.nilFunc) 1 8 := TI.of (by kernel_rfl)
theorem Ty.t125 : TI Tryz.prog 125 (.nilFunc) 1 8 := TI.of (by kernel_rfl)
theorem Ty.t126 : TI Tryz.prog 126 (.nilFunc) 1 8 := TI.of (by kernel_rfl)
theorem Ty.t127 : TI Tryz.prog 127 (.nilFunc) 1 8 := TI.of (by kernel_rfl)
theorem Ty.t129 : TI Tryz.prog 129 (.nilFunc) 1 8 := TI.of (by kernel_rfl)
theorem Ty.t130 : TI Tryz.prog 130 (.nilFunc) 1 8 := TI.of (by kernel_rfl)
theorem Ty.t131 : TI Tryz.prog 131 (.pointer none) 1 8 := TI.of (by kernel_rfl)
theorem Ty.t132 : TI Tryz.prog 132 (.agg #[.pointer none, .int .i64 0, .bool false]) 3 24 := TI.of (by kernel_rfl)
theorem Ty.t133 : TI Tryz.prog 133 (.agg #[.pointer none, .int .i64 0, .bool false]) 3 24 := TI.of (by kernel_rfl)
theorem Ty.t134 : TI Tryz.prog 134 (.nilFunc) 1 8 := TI.of (by kernel_rfl)
theorem Ty.t135 : TI Tryz.prog 135 (.nilFunc) 1 8 := TI.of (by kernel_rfl)
theorem Ty.t137 : TI Tryz.prog 137 (.nilFunc) 1 8 := TI.of (by kernel_rfl)
theorem Ty.t138 : TI Tryz.prog 138 (.nilFunc) 1 8 := TI.of (by kernel_rfl)
theorem Ty.t139 : TI Tryz.prog 139 (.nilFunc) 1 8 := TI.of (by kernel_rfl)
theorem Ty.t140 : TI Tryz.prog 140 (.pointer none) 1 8 := TI.of (by kernel_rfl)
theorem Ty.t141 : TI Tryz.prog 141 (.nilFunc) 1 8 := TI.of (by kernel_rfl)
theorem Ty.t142 : TI Tryz.prog 142 (.nilFunc) 1 8 := TI.of (by kernel_rfl)
theorem Ty.t143 : TI Tryz.prog 143 (.nilFunc) 1 8 := TI.of (by kernel_rfl)
theorem Ty.t144 : TI Tryz.prog 144 (.slice none 0 0) 1 24 := TI.of (by kernel_rfl)
theorem Ty.t146 : TI Tryz.prog 146 (.nilFunc) 1 8 := TI.of (by kernel_rfl)
theorem Ty.t147 : TI Tryz.prog 147 (.nilFunc) 1 8 := TI.of (by kernel_rfl)
theorem Ty.t148 : TI Tryz.prog 148 (.nilFunc) 1 8 := TI.of (by kernel_rfl)
theorem Ty.t149 : TI Tryz.prog 149 (.nilFunc) 1 8 := TI.of (by kernel_rfl)
theorem Ty.t150 : TI Tryz.prog 150 (.nilIface) 1 16 := TI.of (by kernel_rfl)
theorem Ty.t151 : TI Tryz.prog 151 (.nilIface) 1 16 := TI.of (by kernel_rfl)
theorem Ty.t152 : TI Tryz.prog 152 (.pointer none) 1 8 := TI.of (by kernel_rfl)
theorem Ty.t153 : TI Tryz.prog 153 (.agg #[.string ⟨#[]⟩, .slice none 0 0, .nilIface, .int .i64 0, .slice none 0 0, .int .i64 0]) 6 96 := TI.of (by kernel_rfl)
theorem Ty.t154 : TI Tryz.prog 154 (.agg #[.string ⟨#[]⟩, .slice none 0 0, .nilIface, .int .i64 0, .slice none 0 0, .int .i64 0]) 6 96 := TI.of (by kernel_rfl)
theorem Ty.t155 : TI Tryz.prog 155 (.nilFunc) 1 8 := TI.of (by kernel_rfl)
theorem Ty.t156 : TI Tryz.prog 156 (.nilFunc) 1 8 := TI.of (by kernel_rfl)
theorem Ty.t157 : TI Tryz.prog 157 (.nilFunc) 1 8 := TI.of (by kernel_rfl)
theorem Ty.t158 : TI Tryz.prog 158 (.nilFunc) 1 8 := TI.of (by kernel_rfl)
theorem Ty.t159 : TI Tryz.prog 159 (.nilFunc) 1 8 := TI.of (by kernel_rfl)
theorem Ty.t160 : TI Tryz.prog 160 (.nilFunc) 1 8 := TI.of (by kernel_rfl)
theorem Ty.t161 : TI Tryz.prog 161 (.nilFunc) 1 8 := TI.of (by kernel_rfl)
theorem Ty.t162 : TI Tryz.prog 162 (.nilFunc) 1 8 := TI.of (by kernel_rfl)
theorem Ty.t163 : TI Tryz.prog 163 (.int .u64 0) 1 8 := TI.of (by kernel_rfl)
theorem Ty.t165 : TI Tryz.prog 165 (.nilFunc) 1 8 := TI.of (by kernel_rfl)
theorem Ty.t166 : TI Tryz.prog 166 (.nilFunc) 1 8 := TI.of (by kernel_rfl)
theorem Ty.t167 : TI Tryz.prog 167 (.nilFunc) 1 8 := TI.of (by kernel_rfl)
theorem Ty.t168 : TI Tryz.prog 168 (.nilFunc) 1 8 := TI.of (by kernel_rfl)
theorem Ty.t169 : TI Tryz.prog 169 (.nilFunc) 1 8 := TI.of (by kernel_rfl)
theorem Ty.t170 : TI Tryz.prog 170 (.nilFunc) 1 8 := TI.of (by kernel_rfl)
theorem Ty.t171 : TI Tryz.prog 171 (.int .i64 0) 1 8 := TI.of (by kernel_rfl)
theorem Ty.t173 : TI Tryz.prog 173 (.nilFunc) 1 8 := TI.of (by kernel_rfl)
theorem Ty.t174 : TI Tryz.prog 174 (.nilFunc) 1 8 := TI.of (by kernel_rfl)
theorem Ty.t175 : TI Tryz.prog 175 (.nilFunc) 1 8 := TI.of (by kernel_rfl)
theorem Ty.t176 : TI Tryz.prog 176 (.nilFunc) 1 8 := TI.of (by kernel_rfl)
theorem Ty.t177 : TI Tryz.prog 177 (.nilFunc) 1 8 := TI.of (by kernel_rfl)
theorem Ty.t178 : TI Tryz.prog 178 (.nilFunc) 1 8 := TI.of (by kernel_rfl)
theorem Ty.t179 : TI Tryz.prog 179 (.int .u32 0) 1 4 := TI.of (by kernel_rfl)
theorem Ty.t180 : TI Tryz.prog 180 (.nilFunc) 1 8 := TI.of (by kernel_rfl)
theorem Ty.t181 : TI Tryz.prog 181 (.int .u64 0) 1 8 := TI.of (by kernel_rfl)
theorem Ty.t182 : TI Tryz.prog 182 (.nilFunc) 1 8 := TI.of (by kernel_rfl)
theorem Ty.t183 : TI Tryz.prog 183 (.nilFunc) 1 8 := TI.of (by kernel_rfl)
theorem Ty.t184 : TI Tryz.prog 184 (.nilFunc) 1 8 := TI.of (by kernel_rfl)
theorem Ty.t185 : TI Tryz.prog 185 (.int .u64 0) 1 8 := TI.of (by kernel_rfl)
theorem Ty.t186 : TI Tryz.prog 186 (.nilFunc) 1 8 := TI.of (by kernel_rfl)
theorem Ty.t187 : TI Tryz.prog 187 (.nilFunc) 1 8 := TI.of (by kernel_rfl)
theorem Ty.t188 : TI Tryz.prog 188 (.nilFunc) 1 8 := TI.of (by kernel_rfl)
theorem Ty.t189 : TI Tryz.prog 189 (.pointer none) 1 8 := TI.of (by kernel_rfl)
theorem Ty.t190 : TI Tryz.prog 190 (.nilFunc) 1 8 := TI.of (by kernel_rfl)
theorem Ty.t191 : TI Tryz.prog 191 (.nilFunc) 1 8 := TI.of (by kernel_rfl)
theorem Ty.t192 : TI Tryz.prog 192 (.nilFunc) 1 8 := TI.of (by kernel_rfl)
theorem Ty.t193 : TI Tryz.prog 193 (.nilFunc) 1 8 := TI.of (by kernel_rfl)
theorem Ty.t194 : TI Tryz.prog 194 (.nilFunc) 1 8 := TI.of (by kernel_rfl)
theorem Ty.t195 : TI Tryz.prog 195 (.pointer none) 1 8 := TI.of (by kernel_rfl)
theorem Ty.t197 : TI Tryz.prog 197 (.nilFunc) 1 8 := TI.of (by kernel_rfl)
theorem Ty.t198 : TI Tryz.prog 198 (.nilFunc) 1 8 := TI.of (by kernel_rfl)
theorem Ty.t199 : TI Tryz.prog 199 (.nilFunc) 1 8 := TI.of (by kernel_rfl)
theorem Ty.t200 : TI Tryz.prog 200 (.agg #[.pointer none, .pointer none, .pointer none, .string ⟨#[]⟩]) 4 40 := TI.of (by kernel_rfl)
theorem Ty.t201 : TI Tryz.prog 201 (.agg #[.pointer none, .pointer none, .pointer none, .string ⟨#[]⟩]) 4 40 := TI.of (by kernel_rfl)
theorem Ty.t202 : TI Tryz.prog 202 (.agg #[]) 0 0 := TI.of (by kernel_rfl)
theorem Ty.t203 : TI Tryz.prog 203 (.agg #[]) 0 0 := TI.of (by kernel_rfl)
theorem Ty.t204 : TI Tryz.prog 204 (.agg #[]) 0 0 := TI.of (by kernel_rfl)
theorem Ty.t205 : TI Tryz.prog 205 (.int .u8 0) 1 1 := TI.of (by kernel_rfl)
theorem Ty.t206 : TI Tryz.prog 206 (.int .u8 0) 1 1 := TI.of (by kernel_rfl)
theorem Ty.t207 : TI Tryz.prog 207 (.nilFunc) 1 8 := TI.of (by kernel_rfl)
theorem Ty.t208 : TI Tryz.prog 208 (.pointer none) 1 8 := TI.of (by kernel_rfl)
theorem Ty.t209 : TI Tryz.prog 209 (.int .i32 0) 1 4 := TI.of (by kernel_rfl)
theorem Ty.t210 : TI Tryz.prog 210 (.int .i32 0) 1 4 := TI.of (by kernel_rfl)
theorem Ty.t211 : TI Tryz.prog 211 (.agg #[.int .u64 0, .int .u64 0, .int .u32 0, .int .u8 0, .int .u8 0, .int .u8 0, .int .u8 0, .nilFunc, .pointer none, .int .i32 0, .int .i32 0]) 11 48 := TI.of (by kernel_rfl)
theorem Ty.t212 : TI Tryz.prog 212 (.agg #[.int .u64 0, .int .u64 0, .int .u32 0, .int .u8 0, .int .u8 0, .int .u8 0, .int .u8 0, .nilFunc, .pointer none, .int .i32 0, .int .i32 0]) 11 48 := TI.of (by kernel_rfl)
theorem Ty.t213 : TI Tryz.prog 213 (.nilFunc) 1 8 := TI.of (by kernel_rfl)
theorem Ty.t214 : TI Tryz.prog 214 (.nilFunc) 1 8 := TI.of (by kernel_rfl)
theorem Ty.t215 : TI Tryz.prog 215 (.nilFunc) 1 8 := TI.of (by kernel_rfl)
theorem Ty.t216 : TI Tryz.prog 216 (.pointer none) 1 8 := TI.of (by kernel_rfl)
theorem Ty.c2 : callable Tryz.prog 2 = true := by kernel_rfl
theorem Ty.c3 : callable Tryz.prog 3 = true := by kernel_rfl
theorem Ty.c4 : callable Tryz.prog 4 = true := by kernel_rfl
theorem Ty.c5 : callable Tryz.prog 5 = true := by kernel_rfl
theorem Ty.c6 : callable Tryz.prog 6 = true := by kernel_rfl
theorem Ty.c7 : callable Tryz.prog 7 = true := by kernel_rfl
theorem Ty.c8 : callable Tryz.prog 8 = true := by kernel_rfl
theorem Ty.c9 : callable Tryz.prog 9 = true := by kernel_rfl
theorem Ty.c10 : callable Tryz.prog 10 = true := by kernel_rfl
theorem Ty.c11 : callable Tryz.prog 11 = true := by kernel_rfl
theorem Ty.c12 : callable Tryz.prog 12 = true := by kernel_rfl
theorem Ty.c13 : callable Tryz.prog 13 = true := by kernel_rfl
theorem Ty.c14 : callable Tryz.prog 14 = true := by kernel_rfl
theorem Ty.c15 : callable Tryz.prog 15 = true := by kernel_rfl
theorem Ty.c16 : callable Tryz.prog 16 = true := by kernel_rfl
theorem Ty.c17 : callable Tryz.prog 17 = true := by kernel_rfl
theorem Ty.c18 : callable Tryz.prog 18 = true := by kernel_rfl
theorem Ty.c19 : callable Tryz.prog 19 = true := by kernel_rfl
theorem Ty.c20 : callable Tryz.prog 20 = true := by kernel_rfl
theorem Ty.c21 : callable Tryz.prog 21 = true := by kernel_rfl
theorem Ty.c22 : callable Tryz.prog 22 = true := by kernel_rfl
theorem Ty.c23 : callable Tryz.prog 23 = true := by kernel_rfl
theorem Ty.c24 : callable Tryz.prog 24 = true := by kernel_rfl
theorem Ty.c25 : callable Tryz.prog 25 = true := by kernel_rfl
theorem Ty.c26 : callable Tryz.prog 26 = true := by kernel_rfl
theorem Ty.c27 : callable Tryz.prog 27 = true := by kernel_rfl
theorem Ty.c28 : callable Tryz.prog 28 = true := by kernel_rfl
theorem Ty.c29 : callable Tryz.prog 29 = true := by kernel_rfl
theorem Ty.c30 : callable Tryz.prog 30 = true := by kernel_rfl
theorem Ty.c31 : callable Tryz.prog 31 = true := by kernel_rfl
theorem Ty.c32 : callable Tryz.prog 32 = true := by kernel_rfl
theorem Ty.c33 : callable Tryz.prog 33 = true := by kernel_rfl
theorem Ty.c34 : callable Tryz.prog 34 = true := by kernel_rfl
theorem Ty.c35 : callable Tryz.prog 35 = true := by kernel_rfl
theorem Ty.c36 : callable Tryz.prog 36 = true := by kernel_rfl
theorem Ty.c37 : callable Tryz.prog 37 = true := by kernel_rfl
theorem Ty.c38 : callable Tryz.prog 38 = true := by kernel_rfl
theorem Ty.c39 : callable Tryz.prog 39 = true := by kernel_rfl
theorem Ty.c40 : callable Tryz.prog 40 = true := by kernel_rfl
theorem Ty.c41 : callable Tryz.prog 41 = true := by kernel_rfl
theorem Ty.c42 : callable Tryz.prog 42 = true := by kernel_rfl
theorem Ty.c43 : callable Tryz.prog 43 = true := by kernel_rfl
theorem Ty.c44 : callable Tryz.prog 44 = true := by kernel_rfl
theorem Ty.c45 : callable Tryz.prog 45 = true := by kernel_rfl
theorem Ty.c46 : callable Tryz.prog 46 = true := by kernel_rfl
theorem Ty.c47 : callable Tryz.prog 47 = true := by kernel_rfl
theorem Ty.c48 : callable Tryz.prog 48 = true := by kernel_rfl
theorem Ty.c49 : callable Tryz.prog 49 = true := by kernel_rfl
theorem Ty.c50 : callable Tryz.prog 50 = true := by kernel_rfl
theorem Ty.c51 : callable Tryz.prog 51 = true := by kernel_rfl
theorem Ty.c52 : callable Tryz.prog 52 = true := by kernel_rfl
theorem Ty.c53 : callable Tryz.prog 53 = true := by kernel_rfl
theorem Ty.c54 : callable Tryz.prog 54 = true := by kernel_rfl
theorem Ty.c55 : callable Tryz.prog 55 = true := by kernel_rfl
theorem Ty.c56 : callable Tryz.prog 56 = true := by kernel_rfl
theorem Ty.c57 : callable Tryz.prog 57 = true := by kernel_rfl
theorem Ty.c58 : callable Tryz.prog 58 = true := by kernel_rfl
theorem Ty.c59 : callable Tryz.prog 59 = true := by kernel_rfl
theorem Ty.c60 : callable Tryz.prog 60 = true := by kernel_rfl
theorem Ty.c61 : callable Tryz.prog 61 = true := by kernel_rfl
theorem Ty.c62 : callable Tryz.prog 62 = true := by kernel_rfl
theorem Ty.c63 : callable Tryz.prog 63 = true := by kernel_rfl
theorem Ty.c64 : callable Tryz.prog 64 = true := by kernel_rfl
theorem Ty.c65 : callable Tryz.prog 65 = true := by kernel_rfl
theorem Ty.c66 : callable Tryz.prog 66 = true := by kernel_rfl
theorem Ty.c67 : callable Tryz.prog 67 = true := by kernel_rfl
theorem Ty.c68 : callable Tryz.prog 68 = true := by kernel_rfl
theorem Ty.c69 : callable Tryz.prog 69 = true := by kernel_rfl
theorem Ty.c70 : callable Tryz.prog 70 = true := by kernel_rfl
theorem Ty.c71 : callable Tryz.prog 71 = true := by kernel_rfl
theorem Ty.c72 : callable Tryz.prog 72 = true := by kernel_rfl
theorem Ty.c73 : callable Tryz.prog 73 = true := by kernel_rfl
theorem Ty.c74 : callable Tryz.prog 74 = true := by kernel_rfl
theorem Ty.c75 : callable Tryz.prog 75 = true := by kernel_rfl
theorem Ty.c76 : callable Tryz.prog 76 = true := by kernel_rfl
theorem Ty.c77 : callable Tryz.prog 77 = true := by kernel_rfl
theorem Ty.c78 : callable Tryz.prog 78 = true := by kernel_rfl
theorem Ty.c79 : callable Tryz.prog 79 = true := by kernel_rfl
theorem Ty.c80 : callable Tryz.prog 80 = true := by kernel_rfl
theorem Ty.c81 : callable Tryz.prog 81 = true := by kernel_rfl
theorem Ty.c82 : callable Tryz.prog 82 = true := by kernel_rfl
theorem Ty.c83 : callable Tryz.prog 83 = true := by kernel_rfl
theorem Ty.c84 : callable Tryz.prog 84 = true := by kernel_rfl
theorem Ty.c85 : callable Tryz.prog 85 = true := by kernel_rfl
theorem Ty.c86 : callable Tryz.prog 86 = true := by kernel_rfl
theorem Ty.c87 : callable Tryz.prog 87 = true := by kernel_rfl
theorem Ty.c88 : callable Tryz.prog 88 = true := by kernel_rfl
theorem Ty.c89 : callable Tryz.prog 89 = true := by kernel_rfl
theorem Ty.c90 : callable Tryz.prog 90 = true := by kernel_rfl
theorem Ty.c91 : callable Tryz.prog 91 = true := by kernel_rfl
theorem Ty.c92 : callable Tryz.prog 92 = true := by kernel_rfl
theorem Ty.c93 : callable Tryz.prog 93 = true := by kernel_rfl
theorem Ty.c94 : callable Tryz.prog 94 = true := by kernel_rfl
theorem Ty.c95 : callable Tryz.prog 95 = true := by kernel_rfl
theorem Ty.c96 : callable Tryz.prog 96 = true := by kernel_rfl
theorem Ty.c97 : callable Tryz.prog 97 = true := by kernel_rfl
theorem Ty.c98 : callable Tryz.prog 98 = true := by kernel_rfl
theorem Ty.c99 : callable Tryz.prog 99 = true := by kernel_rfl
theorem Ty.c100 : callable Tryz.prog 100 = true := by kernel_rfl
theorem Ty.c101 : callable Tryz.prog 101 = true := by kernel_rfl
theorem Ty.c102 : callable Tryz.prog 102 = true := by kernel_rfl
theorem Ty.c103 : callable Tryz.prog 103 = true := by kernel_rfl
theorem Ty.c104 : callable Tryz.prog 104 = true := by kernel_rfl
theorem Ty.c105 : callable Tryz.prog 105 = true := by kernel_rfl
theorem Ty.c106 : callable Tryz.prog 106 = true := by kernel_rfl
theorem Ty.c107 : callable Tryz.prog 107 = true := by kernel_rfl
theorem Ty.c108 : callable Tryz.prog 108 = true := by kernel_rfl
theorem Ty.c109 : callable Tryz.prog 109 = true := by kernel_rfl
theorem Ty.c110 : callable Tryz.prog 110 = true := by kernel_rfl
theorem Ty.c111 : callable Tryz.prog 111 = true := by kernel_rfl
theorem Ty.c112 : callable Tryz.prog 112 = true := by kernel_rfl
theorem Ty.c113 : callable Tryz.prog 113 = true := by kernel_rfl
theorem Ty.c114 : callable Tryz.prog 114 = true := by kernel_rfl
theorem Ty.c115 : callable Tryz.prog 115 = true := by kernel_rfl
theorem Ty.c116 : callable Tryz.prog 116 = true := by kernel_rfl
theorem Ty.c117 : callable Tryz.prog 117 = true := by kernel_rfl
theorem Ty.c118 : callable Tryz.prog 118 = true := by kernel_rfl
theorem Ty.c119 : callable Tryz.prog 119 = true := by kernel_rfl
theorem Ty.c120 : callable Tryz.prog 120 = true := by kernel_rfl
theorem Ty.c121 : callable Tryz.prog 121 = true := by kernel_rfl
theorem Ty.c122 : callable Tryz.prog 122 = true := by kernel_rfl
theorem Ty.c123 : callable Tryz.prog 123 = true := by kernel_rfl
theorem Ty.c124 : callable Tryz.prog 124 = true := by kernel_rfl
theorem Ty.c125 : callable Tryz.prog 125 = true := by kernel_rfl
theorem Ty.c126 : callable Tryz.prog 126 = true := by kernel_rfl
theorem Ty.c127 : callable Tryz.prog 127 = true := by kernel_rfl
theorem Ty.c128 : callable Tryz.prog 128 = true := by kernel_rfl
theorem Ty.c129 : callable Tryz.prog 129 = true := by kernel_rfl
theorem Ty.c130 : callable Tryz.prog 130 = true := by kernel_rfl
theorem Ty.c131 : callable Tryz.prog 131 = true := by kernel_rfl
theorem Ty.c132 : callable Tryz.prog 132 = true := by kernel_rfl
theorem Ty.c133 : callable Tryz.prog 133 = true := by kernel_rfl
theorem Ty.c134 : callable Tryz.prog 134 = true := by kernel_rfl
theorem Ty.c135 : callable Tryz.prog 135 = true := by kernel_rfl
theorem Ty.c151 : callable Tryz.prog 151 = true := by kernel_rfl
theorem Ty.c152 : callable Tryz.prog 152 = true := by kernel_rfl
theorem Ty.c153 : callable Tryz.prog 153 = true := by kernel_rfl
theorem Ty.c155 : callable Tryz.prog 155 = true := by kernel_rfl
theorem Ty.c156 : callable Tryz.prog 156 = true := by kernel_rfl
theorem Ty.b7 : BuildT Tryz.prog 7 [(0, 1), (1, 1), (2, 1), (3, 1)] := ⟨_, Tryz.underlying7, fun w => by kernel_rfl⟩
theorem Ty.b8 : BuildT Tryz.prog 8 [(0, 1), (1, 1), (2, 1), (3, 1)] := ⟨_, Tryz.underlying8, fun w => by kernel_rfl⟩
theorem Ty.b13 : BuildT Tryz.prog 13 [(0, 1), (1, 1)] := ⟨_, Tryz.underlying13, fun w => by kernel_rfl⟩
theorem Ty.b14 : BuildT Tryz.prog 14 [(0, 1), (1, 1)] := ⟨_, Tryz.underlying14, fun w => by kernel_rfl⟩
theorem Ty.b18 : BuildT Tryz.prog 18 [(0, 1)] := ⟨_, Tryz.underlying18, fun w => by kernel_rfl⟩
theorem Ty.b19 : BuildT Tryz.prog 19 [(0, 1)] := ⟨_, Tryz.underlying19, fun w => by kernel_rfl⟩
theorem Ty.b23 : BuildT Tryz.prog 23 [(0, 1), (1, 1)] := ⟨_, Tryz.underlying23, fun w => by kernel_rfl⟩
theorem Ty.b24 : BuildT Tryz.prog 24 [(0, 1), (1, 1)] := ⟨_, Tryz.underlying24, fun w => by kernel_rfl⟩
theorem Ty.b37 : BuildT Tryz.prog 37 [(0, 1), (1, 1), (2, 1), (3, 1), (4, 1)] := ⟨_, Tryz.underlying37, fun w => by kernel_rfl⟩
theorem Ty.b38 : BuildT Tryz.prog 38 [(0, 1), (1, 1), (2, 1), (3, 1), (4, 1)] := ⟨_, Tryz.underlying38, fun w => by kernel_rfl⟩
theorem Ty.b42 : BuildT Tryz.prog 42 [(0, 1), (1, 1), (2, 1), (3, 1), (4, 1)] := ⟨_, Tryz.underlying42, fun w => by kernel_rfl⟩
theorem Ty.b43 : BuildT Tryz.prog 43 [(0, 1), (1, 1), (2, 1), (3, 1), (4, 1)] := ⟨_, Tryz.underlying43, fun w => by kernel_rfl⟩
theorem Ty.b59 : BuildT Tryz.prog 59 [(0, 1), (1, 1), (2, 1), (3, 1)] := ⟨_, Tryz.underlying59, fun w => by kernel_rfl⟩
theorem Ty.b60 : BuildT Tryz.prog 60 [(0, 1), (1, 1), (2, 1), (3, 1)] := ⟨_, Tryz.underlying60, fun w => by kernel_rfl⟩
theorem Ty.b76 : BuildT Tryz.prog 76 [(0, 1), (1, 1)] := ⟨_, Tryz.underlying76, fun w => by kernel_rfl⟩
theorem Ty.b77 : BuildT Tryz.prog 77 [(0, 1), (1, 1)] := ⟨_, Tryz.underlying77, fun w => by kernel_rfl⟩
theorem Ty.b79 : BuildT Tryz.prog 79 [(0, 2), (2, 1), (3, 1), (4, 1), (5, 1), (6, 2), (8, 1), (9, 1), (10, 1)] := ⟨_, Tryz.underlying79, fun w => by kernel_rfl⟩
theorem Ty.b80 : BuildT Tryz.prog 80 [(0, 2), (2, 1), (3, 1), (4, 1), (5, 1), (6, 2), (8, 1), (9, 1), (10, 1)] := ⟨_, Tryz.underlying80, fun w => by kernel_rfl⟩
theorem Ty.b84 : BuildT Tryz.prog 84 [(0, 1), (1, 1), (2, 1), (3, 1), (4, 1)] := ⟨_, Tryz.underlying84, fun w => by kernel_rfl⟩
theorem Ty.b85 : BuildT Tryz.prog 85 [(0, 1), (1, 1), (2, 1), (3, 1), (4, 1)] := ⟨_, Tryz.underlying85, fun w => by kernel_rfl⟩
theorem Ty.b90 : BuildT Tryz.prog 90 [(0, 1)] := ⟨_, Tryz.underlying90, fun w => by kernel_rfl⟩
theorem Ty.b91 : BuildT Tryz.prog 91 [(0, 1)] := ⟨_, Tryz.underlying91, fun w => by kernel_rfl⟩
theorem Ty.b99 : BuildT Tryz.prog 99 [(0, 4), (4, 1)] := ⟨_, Tryz.underlying99, fun w => by kernel_rfl⟩
theorem Ty.b100 : BuildT Tryz.prog 100 [(0, 4), (4, 1)] := ⟨_, Tryz.underlying100, fun w => by kernel_rfl⟩
theorem Ty.b102 : BuildT Tryz.prog 102 [(0, 1), (1, 1), (2, 1)] := ⟨_, Tryz.underlying102, fun w => by kernel_rfl⟩
theorem Ty.b103 : BuildT Tryz.prog 103 [(0, 1), (1, 1), (2, 1)] := ⟨_, Tryz.underlying103, fun w => by kernel_rfl⟩
theorem Ty.b110 : BuildT Tryz.prog 110 [(0, 1)] := ⟨_, Tryz.underlying110, fun w => by kernel_rfl⟩
theorem Ty.b111 : BuildT Tryz.prog 111 [(0, 1)] := ⟨_, Tryz.underlying111, fun w => by kernel_rfl⟩
theorem Ty.b113 : BuildT Tryz.prog 113 [(0, 8), (8, 1)] := ⟨_, Tryz.underlying113, fun w => by kernel_rfl⟩
theorem Ty.b114 : BuildT Tryz.prog 114 [(0, 8), (8, 1)] := ⟨_, Tryz.underlying114, fun w => by kernel_rfl⟩
theorem Ty.b132 : BuildT Tryz.prog 132 [(0, 1), (1, 1), (2, 1)] := ⟨_, Tryz.underlying132, fun w => by kernel_rfl⟩
theorem Ty.b133 : BuildT Tryz.prog 133 [(0, 1), (1, 1), (2, 1)] := ⟨_, Tryz.underlying133, fun w => by kernel_rfl⟩
theorem Ty.b153 : BuildT Tryz.prog 153 [(0, 2), (2, 1), (3, 1), (4, 1), (5, 1)] := ⟨_, Tryz.underlying153, fun w => by kernel_rfl⟩
theorem Ty.b154 : BuildT Tryz.prog 154 [(0, 2), (2, 1), (3, 1), (4, 1), (5, 1)] := ⟨_, Tryz.underlying154, fun w => by kernel_rfl⟩
theorem Ty.b200 : BuildT Tryz.prog 200 [(0, 1), (1, 1), (2, 1), (3, 1)] := ⟨_, Tryz.underlying200, fun w => by kernel_rfl⟩
theorem Ty.b201 : BuildT Tryz.prog 201 [(0, 1), (1, 1), (2, 1), (3, 1)] := ⟨_, Tryz.underlying201, fun w => by kernel_rfl⟩
theorem Ty.b203 : BuildT Tryz.prog 203 [(0, 0)] := ⟨_, Tryz.underlying203, fun w => by kernel_rfl⟩
theorem Ty.b204 : BuildT Tryz.prog 204 [(0, 0)] := ⟨_, Tryz.underlying204, fun w => by kernel_rfl⟩
theorem Ty.b211 : BuildT Tryz.prog 211 [(0, 1), (1, 1), (2, 1), (3, 1), (4, 1), (5, 1), (6, 1), (7, 1), (8, 1), (9, 1), (10, 1)] := ⟨_, Tryz.underlying211, fun w => by kernel_rfl⟩
theorem Ty.b212 : BuildT Tryz.prog 212 [(0, 1), (1, 1), (2, 1), (3, 1), (4, 1), (5, 1), (6, 1), (7, 1), (8, 1), (9, 1), (10, 1)] := ⟨_, Tryz.underlying212, fun w => by kernel_rfl⟩
instance : UOne Tryz.prog 2 := ⟨_, Tryz.underlying2, rfl⟩
instance : UOne Tryz.prog 3 := ⟨_, Tryz.underlying3, rfl⟩
instance : UOne Tryz.prog 4 := ⟨_, Tryz.underlying4, rfl⟩
instance : UOne Tryz.prog 5 := ⟨_, Tryz.underlying5, rfl⟩
instance : UOne Tryz.prog 9 := ⟨_, Tryz.underlying9, rfl⟩
instance : UOne Tryz.prog 21 := ⟨_, Tryz.underlying21, rfl⟩
instance : UOne Tryz.prog 22 := ⟨_, Tryz.underlying22, rfl⟩
instance : UOne Tryz.prog 31 := ⟨_, Tryz.underlying31, rfl⟩
instance : UOne Tryz.prog 32 := ⟨_, Tryz.underlying32, rfl⟩
instance : UOne Tryz.prog 33 := ⟨_, Tryz.underlying33, rfl⟩
instance : UOne Tryz.prog 34 := ⟨_, Tryz.underlying34, rfl⟩
instance : UOne Tryz.prog 35 := ⟨_, Tryz.underlying35, rfl⟩
instance : UOne Tryz.prog 36 := ⟨_, Tryz.underlying36, rfl⟩
instance : UOne Tryz.prog 39 := ⟨_, Tryz.underlying39, rfl⟩
instance : UOne Tryz.prog 41 := ⟨_, Tryz.underlying41, rfl⟩
instance : UOne Tryz.prog 47 := ⟨_, Tryz.underlying47, rfl⟩
instance : UOne Tryz.prog 54 := ⟨_, Tryz.underlying54, rfl⟩
instance : UOne Tryz.prog 56 := ⟨_, Tryz.underlying56, rfl⟩
instance : UOne Tryz.prog 89 := ⟨_, Tryz.underlying89, rfl⟩
instance : UOne Tryz.prog 101 := ⟨_, Tryz.underlying101, rfl⟩
instance : UOne Tryz.prog 109 := ⟨_, Tryz.underlying109, rfl⟩
instance : UOne Tryz.prog 151 := ⟨_, Tryz.underlying151, rfl⟩
instance : UOne Tryz.prog 185 := ⟨_, Tryz.underlying185, rfl⟩
instance : USl Tryz.prog 22 := ⟨_, Tryz.underlying22⟩
instance : USl Tryz.prog 25 := ⟨_, Tryz.underlying25⟩
instance : USl Tryz.prog 35 := ⟨_, Tryz.underlying35⟩
instance : USl Tryz.prog 39 := ⟨_, Tryz.underlying39⟩
instance : USl Tryz.prog 41 := ⟨_, Tryz.underlying41⟩
instance : USl Tryz.prog 47 := ⟨_, Tryz.underlying47⟩
instance : USl Tryz.prog 49 := ⟨_, Tryz.underlying49⟩
instance : USl Tryz.prog 54 := ⟨_, Tryz.underlying54⟩
instance : USl Tryz.prog 89 := ⟨_, Tryz.underlying89⟩
instance : USl Tryz.prog 109 := ⟨_, Tryz.underlying109⟩
instance : USl Tryz.prog 144 := ⟨_, Tryz.underlying144⟩
instance : UPtr Tryz.prog 29 := ⟨_, Tryz.underlying29⟩
instance : UPtr Tryz.prog 31 := ⟨_, Tryz.underlying31⟩
instance : UPtr Tryz.prog 32 := ⟨_, Tryz.underlying32⟩
instance : UPtr Tryz.prog 33 := ⟨_, Tryz.underlying33⟩
instance : UPtr Tryz.prog 34 := ⟨_, Tryz.underlying34⟩
instance : UPtr Tryz.prog 56 := ⟨_, Tryz.underlying56⟩
instance : UPtr Tryz.prog 96 := ⟨_, Tryz.underlying96⟩
instance : UPtr Tryz.prog 140 := ⟨_, Tryz.underlying140⟩
instance : UFld Tryz.prog 24 0 0 := ⟨_, _, _, _, _, Tryz.underlying24, rfl, Ty.t9, rfl⟩
instance : UFld Tryz.prog 24 1 1 := ⟨_, _, _, _, _, Tryz.underlying24, rfl, Ty.t22, rfl⟩
instance : UFld Tryz.prog 38 0 0 := ⟨_, _, _, _, _, Tryz.underlying38, rfl, Ty.t32, rfl⟩
instance : UFld Tryz.prog 38 1 1 := ⟨_, _, _, _, _, Tryz.underlying38, rfl, Ty.t33, rfl⟩
instance : UFld Tryz.prog 38 2 2 := ⟨_, _, _, _, _, Tryz.underlying38, rfl, Ty.t34, rfl⟩
instance : UFld Tryz.prog 38 3 3 := ⟨_, _, _, _, _, Tryz.underlying38, rfl, Ty.t35, rfl⟩
instance : UFld Tryz.prog 38 4 4 := ⟨_, _, _, _, _, Tryz.underlying38, rfl, Ty.t36, rfl⟩
instance : UFld Tryz.prog 43 0 0 := ⟨_, _, _, _, _, Tryz.underlying43, rfl, Ty.t2, rfl⟩
instance : UFld Tryz.prog 43 1 1 := ⟨_, _, _, _, _, Tryz.underlying43, rfl, Ty.t3, rfl⟩
instance : UFld Tryz.prog 43 2 2 := ⟨_, _, _, _, _, Tryz.underlying43, rfl, Ty.t41, rfl⟩
instance : UFld Tryz.prog 43 3 3 := ⟨_, _, _, _, _, Tryz.underlying43, rfl, Ty.t3, rfl⟩
instance : UFld Tryz.prog 43 4 4 := ⟨_, _, _, _, _, Tryz.underlying43, rfl, Ty.t36, rfl⟩
instance : UFld Tryz.prog 60 0 0 := ⟨_, _, _, _, _, Tryz.underlying60, rfl, Ty.t3, rfl⟩
instance : UFld Tryz.prog 60 1 1 := ⟨_, _, _, _, _, Tryz.underlying60, rfl, Ty.t3, rfl⟩
instance : UFld Tryz.prog 60 2 2 := ⟨_, _, _, _, _, Tryz.underlying60, rfl, Ty.t3, rfl⟩
instance : UFld Tryz.prog 60 3 3 := ⟨_, _, _, _, _, Tryz.underlying60, rfl, Ty.t3, rfl⟩
instance : UFld Tryz.prog 77 0 0 := ⟨_, _, _, _, _, Tryz.underlying77, rfl, Ty.t2, rfl⟩
instance : UFld Tryz.prog 77 1 1 := ⟨_, _, _, _, _, Tryz.underlying77, rfl, Ty.t2, rfl⟩
instance : UFld Tryz.prog 80 0 0 := ⟨_, _, _, _, _, Tryz.underlying80, rfl, Ty.t24, rfl⟩
instance : UFld Tryz.prog 80 1 2 := ⟨_, _, _, _, _, Tryz.underlying80, rfl, Ty.t33, rfl⟩
instance : UFld Tryz.prog 80 2 3 := ⟨_, _, _, _, _, Tryz.underlying80, rfl, Ty.t34, rfl⟩
instance : UFld Tryz.prog 80 3 4 := ⟨_, _, _, _, _, Tryz.underlying80, rfl, Ty.t32, rfl⟩
instance : UFld Tryz.prog 80 4 5 := ⟨_, _, _, _, _, Tryz.underlying80, rfl, Ty.t4, rfl⟩
instance : UFld Tryz.prog 80 5 6 := ⟨_, _, _, _, _, Tryz.underlying80, rfl, Ty.t77, rfl⟩
instance : UFld Tryz.prog 80 6 8 := ⟨_, _, _, _, _, Tryz.underlying80, rfl, Ty.t36, rfl⟩
instance : UFld Tryz.prog 80 7 9 := ⟨_, _, _, _, _, Tryz.underlying80, rfl, Ty.t3, rfl⟩
instance : UFld Tryz.prog 80 8 10 := ⟨_, _, _, _, _, Tryz.underlying80, rfl, Ty.t4, rfl⟩
instance : UFld Tryz.prog 85 0 0 := ⟨_, _, _, _, _, Tryz.underlying85, rfl, Ty.t32, rfl⟩
instance : UFld Tryz.prog 85 1 1 := ⟨_, _, _, _, _, Tryz.underlying85, rfl, Ty.t3, rfl⟩
instance : UFld Tryz.prog 85 2 2 := ⟨_, _, _, _, _, Tryz.underlying85, rfl, Ty.t39, rfl⟩
instance : UFld Tryz.prog 85 3 3 := ⟨_, _, _, _, _, Tryz.underlying85, rfl, Ty.t2, rfl⟩
instance : UFld Tryz.prog 85 4 4 := ⟨_, _, _, _, _, Tryz.underlying85, rfl, Ty.t2, rfl⟩
instance : UFld Tryz.prog 91 0 0 := ⟨_, _, _, _, _, Tryz.underlying91, rfl, Ty.t89, rfl⟩
instance : UFld Tryz.prog 100 0 0 := ⟨_, _, _, _, _, Tryz.underlying100, rfl, Ty.t98, rfl⟩
instance : UFld Tryz.prog 100 1 4 := ⟨_, _, _, _, _, Tryz.underlying100, rfl, Ty.t3, rfl⟩
instance : UFld Tryz.prog 103 0 0 := ⟨_, _, _, _, _, Tryz.underlying103, rfl, Ty.t56, rfl⟩
instance : UFld Tryz.prog 103 1 1 := ⟨_, _, _, _, _, Tryz.underlying103, rfl, Ty.t101, rfl⟩
instance : UFld Tryz.prog 103 2 2 := ⟨_, _, _, _, _, Tryz.underlying103, rfl, Ty.t36, rfl⟩
instance : UFld Tryz.prog 111 0 0 := ⟨_, _, _, _, _, Tryz.underlying111, rfl, Ty.t109, rfl⟩
instance : UFld Tryz.prog 114 0 0 := ⟨_, _, _, _, _, Tryz.underlying114, rfl, Ty.t112, rfl⟩
instance : UFld Tryz.prog 114 1 8 := ⟨_, _, _, _, _, Tryz.underlying114, rfl, Ty.t3, rfl⟩
instance : UFld Tryz.prog 133 0 0 := ⟨_, _, _, _, _, Tryz.underlying133, rfl, Ty.t32, rfl⟩
instance : UFld Tryz.prog 133 1 1 := ⟨_, _, _, _, _, Tryz.underlying133, rfl, Ty.t36, rfl⟩
instance : UFld Tryz.prog 133 2 2 := ⟨_, _, _, _, _, Tryz.underlying133, rfl, Ty.t4, rfl⟩
instance : UFld Tryz.prog 154 0 0 := ⟨_, _, _, _, _, Tryz.underlying154, rfl, Ty.t24, rfl⟩
instance : UFld Tryz.prog 154 1 2 := ⟨_, _, _, _, _, Tryz.underlying154, rfl, Ty.t151, rfl⟩
instance : UFld Tryz.prog 154 2 3 := ⟨_, _, _, _, _, Tryz.underlying154, rfl, Ty.t3, rfl⟩
instance : UFld Tryz.prog 154 3 4 := ⟨_, _, _, _, _, Tryz.underlying154, rfl, Ty.t47, rfl⟩
instance : UFld Tryz.prog 154 4 5 := ⟨_, _, _, _, _, Tryz.underlying154, rfl, Ty.t3, rfl⟩
theorem Ty.mixed : Tryz.prog.follows .mixedOrders = true := by kernel_rfl
end Go.Proofs.YtneafbkhaooelaaGreat

