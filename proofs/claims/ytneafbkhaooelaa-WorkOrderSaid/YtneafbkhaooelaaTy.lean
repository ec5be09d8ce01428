/- The program's types and functions, as far as the steps ask for them. -/
import Derived.Test.YtneafbkhaooelaaFast
import Derived.Test.YtneafbkhaooelaaRows
import Derived.KernelRfl
namespace Go.Proofs.Ytneafbkhaooelaa
open Go.RowKit
theorem Ty.t1 : TI Try.prog 1 (.nilFunc) 1 8 := TI.of (by kernel_rfl)
theorem Ty.t2 : TI Try.prog 2 (.int .i64 0) 1 8 := TI.of (by kernel_rfl)
theorem Ty.t3 : TI Try.prog 3 (.int .i64 0) 1 8 := TI.of (by kernel_rfl)
theorem Ty.t4 : TI Try.prog 4 (.bool false) 1 1 := TI.of (by kernel_rfl)
theorem Ty.t5 : TI Try.prog 5 (.int .u8 0) 1 1 := TI.of (by kernel_rfl)
theorem Ty.t6 : TI Try.prog 6 (.int .u8 0) 1 1 := TI.of (by kernel_rfl)
theorem Ty.t7 : TI Try.prog 7 (.agg #[.int .i64 0, .int .i64 0, .bool false, .int .u8 0]) 4 24 := TI.of (by kernel_rfl)
theorem Ty.t8 : TI Try.prog 8 (.agg #[.int .i64 0, .int .i64 0, .bool false, .int .u8 0]) 4 24 := TI.of (by kernel_rfl)
theorem Ty.t9 : TI Try.prog 9 (.string ⟨#[]⟩) 1 16 := TI.of (by kernel_rfl)
theorem Ty.t10 : TI Try.prog 10 (.string ⟨#[]⟩) 1 16 := TI.of (by kernel_rfl)
theorem Ty.t11 : TI Try.prog 11 (.string ⟨#[]⟩) 1 16 := TI.of (by kernel_rfl)
theorem Ty.t12 : TI Try.prog 12 (.int .u64 0) 1 8 := TI.of (by kernel_rfl)
theorem Ty.t13 : TI Try.prog 13 (.agg #[.string ⟨#[]⟩, .int .u64 0]) 2 24 := TI.of (by kernel_rfl)
theorem Ty.t14 : TI Try.prog 14 (.agg #[.string ⟨#[]⟩, .int .u64 0]) 2 24 := TI.of (by kernel_rfl)
theorem Ty.t15 : TI Try.prog 15 (.pointer none) 1 8 := TI.of (by kernel_rfl)
theorem Ty.t16 : TI Try.prog 16 (.pointer none) 1 8 := TI.of (by kernel_rfl)
theorem Ty.t17 : TI Try.prog 17 (.pointer none) 1 8 := TI.of (by kernel_rfl)
theorem Ty.t18 : TI Try.prog 18 (.agg #[.pointer none]) 1 8 := TI.of (by kernel_rfl)
theorem Ty.t19 : TI Try.prog 19 (.agg #[.pointer none]) 1 8 := TI.of (by kernel_rfl)
theorem Ty.t20 : TI Try.prog 20 (.nilIface) 1 16 := TI.of (by kernel_rfl)
theorem Ty.t21 : TI Try.prog 21 (.int .i32 0) 1 4 := TI.of (by kernel_rfl)
theorem Ty.t22 : TI Try.prog 22 (.pointer none) 1 8 := TI.of (by kernel_rfl)
theorem Ty.t23 : TI Try.prog 23 (.nilFunc) 1 8 := TI.of (by kernel_rfl)
theorem Ty.t24 : TI Try.prog 24 (.slice none 0 0) 1 24 := TI.of (by kernel_rfl)
theorem Ty.t25 : TI Try.prog 25 (.agg #[.string ⟨#[]⟩, .slice none 0 0]) 2 40 := TI.of (by kernel_rfl)
theorem Ty.t26 : TI Try.prog 26 (.agg #[.string ⟨#[]⟩, .slice none 0 0]) 2 40 := TI.of (by kernel_rfl)
theorem Ty.t27 : TI Try.prog 27 (.slice none 0 0) 1 24 := TI.of (by kernel_rfl)
theorem Ty.t28 : TI Try.prog 28 (.slice none 0 0) 1 24 := TI.of (by kernel_rfl)
theorem Ty.t29 : TI Try.prog 29 (.nilFunc) 1 8 := TI.of (by kernel_rfl)
theorem Ty.t30 : TI Try.prog 30 (.nilFunc) 1 8 := TI.of (by kernel_rfl)
theorem Ty.t31 : TI Try.prog 31 (.pointer none) 1 8 := TI.of (by kernel_rfl)
theorem Ty.t32 : TI Try.prog 32 (.nilFunc) 1 8 := TI.of (by kernel_rfl)
theorem Ty.t33 : TI Try.prog 33 (.pointer none) 1 8 := TI.of (by kernel_rfl)
theorem Ty.t34 : TI Try.prog 34 (.pointer none) 1 8 := TI.of (by kernel_rfl)
theorem Ty.t35 : TI Try.prog 35 (.pointer none) 1 8 := TI.of (by kernel_rfl)
theorem Ty.t36 : TI Try.prog 36 (.slice none 0 0) 1 24 := TI.of (by kernel_rfl)
theorem Ty.t37 : TI Try.prog 37 (.int .i64 0) 1 8 := TI.of (by kernel_rfl)
theorem Ty.t38 : TI Try.prog 38 (.agg #[.pointer none, .pointer none, .pointer none, .slice none 0 0, .int .i64 0]) 5 56 := TI.of (by kernel_rfl)
theorem Ty.t39 : TI Try.prog 39 (.agg #[.pointer none, .pointer none, .pointer none, .slice none 0 0, .int .i64 0]) 5 56 := TI.of (by kernel_rfl)
theorem Ty.t40 : TI Try.prog 40 (.slice none 0 0) 1 24 := TI.of (by kernel_rfl)
theorem Ty.t41 : TI Try.prog 41 (.nilFunc) 1 8 := TI.of (by kernel_rfl)
theorem Ty.t42 : TI Try.prog 42 (.agg #[.int .i32 0, .int .i32 0, .int .i32 0, .int .i32 0, .int .i32 0, .int .i32 0, .int .i32 0, .int .i32 0, .int .i32 0, .int .i32 0, .int .i32 0, .int .i32 0, .int .i32 0, .int .i32 0, .int .i32 0, .int .i32 0, .int .i32 0, .int .i32 0, .int .i32 0, .int .i32 0, .int .i32 0, .int .i32 0, .int .i32 0, .int .i32 0, .int .i32 0, .int .i32 0, .int .i32 0, .int .i32 0, .int .i32 0, .int .i32 0, .int .i32 0, .int .i32 0]) 32 128 := TI.of (by kernel_rfl)
theorem Ty.t43 : TI Try.prog 43 (.agg #[.int .i32 0, .int .i32 0, .int .i32 0, .int .i32 0, .int .i32 0, .int .i32 0, .int .i32 0, .int .i32 0, .int .i32 0, .int .i32 0, .int .i32 0, .int .i32 0, .int .i32 0, .int .i32 0, .int .i32 0, .int .i32 0, .int .i32 0, .int .i32 0, .int .i32 0, .int .i32 0, .int .i32 0, .int .i32 0, .int .i32 0, .int .i32 0, .int .i32 0, .int .i32 0, .int .i32 0, .int .i32 0, .int .i32 0, .int .i32 0, .int .i32 0, .int .i32 0]) 32 128 := TI.of (by kernel_rfl)
theorem Ty.t45 : TI Try.prog 45 (.nilFunc) 1 8 := TI.of (by kernel_rfl)
theorem Ty.t46 : TI Try.prog 46 (.slice none 0 0) 1 24 := TI.of (by kernel_rfl)
theorem Ty.t47 : TI Try.prog 47 (.agg #[.int .i64 0, .int .i64 0, .slice none 0 0, .int .i64 0, .int .i64 0]) 5 56 := TI.of (by kernel_rfl)
theorem Ty.t48 : TI Try.prog 48 (.agg #[.int .i64 0, .int .i64 0, .slice none 0 0, .int .i64 0, .int .i64 0]) 5 56 := TI.of (by kernel_rfl)
theorem Ty.t49 : TI Try.prog 49 (.agg #[.int .i32 0, .int .i32 0, .int .i32 0, .int .i32 0, .int .i32 0, .int .i32 0, .int .i32 0, .int .i32 0, .int .i32 0, .int .i32 0, .int .i32 0, .int .i32 0, .int .i32 0, .int .i32 0, .int .i32 0, .int .i32 0, .int .i32 0, .int .i32 0, .int .i32 0, .int .i32 0, .int .i32 0, .int .i32 0, .int .i32 0, .int .i32 0, .int .i32 0, .int .i32 0, .int .i32 0, .int .i32 0, .int .i32 0, .int .i32 0, .int .i32 0, .int .i32 0]) 32 128 := TI.of (by kernel_rfl)
theorem Ty.t50 : TI Try.prog 50 (.nilFunc) 1 8 := TI.of (by kernel_rfl)
theorem Ty.t51 : TI Try.prog 51 (.agg #[.int .i64 0, .int .i64 0, .int .i64 0, .int .i64 0]) 4 32 := TI.of (by kernel_rfl)
theorem Ty.t52 : TI Try.prog 52 (.agg #[.int .i64 0, .int .i64 0, .int .i64 0, .int .i64 0]) 4 32 := TI.of (by kernel_rfl)
theorem Ty.t53 : TI Try.prog 53 (.slice none 0 0) 1 24 := TI.of (by kernel_rfl)
theorem Ty.t54 : TI Try.prog 54 (.agg #[.int .i64 0, .int .i64 0]) 2 16 := TI.of (by kernel_rfl)
theorem Ty.t55 : TI Try.prog 55 (.agg #[.int .i64 0, .int .i64 0]) 2 16 := TI.of (by kernel_rfl)
theorem Ty.t56 : TI Try.prog 56 (.agg #[.string ⟨#[]⟩, .slice none 0 0, .pointer none, .pointer none, .pointer none, .bool false, .int .i64 0, .int .i64 0, .int .i64 0, .int .i64 0, .bool false]) 11 112 := TI.of (by kernel_rfl)
theorem Ty.t57 : TI Try.prog 57 (.agg #[.string ⟨#[]⟩, .slice none 0 0, .pointer none, .pointer none, .pointer none, .bool false, .int .i64 0, .int .i64 0, .int .i64 0, .int .i64 0, .bool false]) 11 112 := TI.of (by kernel_rfl)
theorem Ty.t59 : TI Try.prog 59 (.nilFunc) 1 8 := TI.of (by kernel_rfl)
theorem Ty.t60 : TI Try.prog 60 (.nilFunc) 1 8 := TI.of (by kernel_rfl)
theorem Ty.t61 : TI Try.prog 61 (.nilFunc) 1 8 := TI.of (by kernel_rfl)
theorem Ty.t62 : TI Try.prog 62 (.nilFunc) 1 8 := TI.of (by kernel_rfl)
theorem Ty.t63 : TI Try.prog 63 (.nilFunc) 1 8 := TI.of (by kernel_rfl)
theorem Ty.t64 : TI Try.prog 64 (.nilFunc) 1 8 := TI.of (by kernel_rfl)
theorem Ty.t65 : TI Try.prog 65 (.nilFunc) 1 8 := TI.of (by kernel_rfl)
theorem Ty.t66 : TI Try.prog 66 (.nilFunc) 1 8 := TI.of (by kernel_rfl)
theorem Ty.t67 : TI Try.prog 67 (.nilFunc) 1 8 := TI.of (by kernel_rfl)
theorem Ty.t68 : TI Try.prog 68 (.nilFunc) 1 8 := TI.of (by kernel_rfl)
theorem Ty.t70 : TI Try.prog 70 (.nilFunc) 1 8 := TI.of (by kernel_rfl)
theorem Ty.t72 : TI Try.prog 72 (.nilFunc) 1 8 := TI.of (by kernel_rfl)
theorem Ty.t73 : TI Try.prog 73 (.nilFunc) 1 8 := TI.of (by kernel_rfl)
theorem Ty.t74 : TI Try.prog 74 (.nilFunc) 1 8 := TI.of (by kernel_rfl)
theorem Ty.t75 : TI Try.prog 75 (.nilFunc) 1 8 := TI.of (by kernel_rfl)
theorem Ty.t76 : TI Try.prog 76 (.agg #[.pointer none, .int .i64 0, .slice none 0 0, .int .i64 0, .int .i64 0]) 5 56 := TI.of (by kernel_rfl)
theorem Ty.t77 : TI Try.prog 77 (.agg #[.pointer none, .int .i64 0, .slice none 0 0, .int .i64 0, .int .i64 0]) 5 56 := TI.of (by kernel_rfl)
theorem Ty.t78 : TI Try.prog 78 (.nilFunc) 1 8 := TI.of (by kernel_rfl)
theorem Ty.t79 : TI Try.prog 79 (.pointer none) 1 8 := TI.of (by kernel_rfl)
theorem Ty.t80 : TI Try.prog 80 (.nilFunc) 1 8 := TI.of (by kernel_rfl)
theorem Ty.t82 : TI Try.prog 82 (.nilFunc) 1 8 := TI.of (by kernel_rfl)
theorem Ty.t84 : TI Try.prog 84 (.nilFunc) 1 8 := TI.of (by kernel_rfl)
theorem Ty.t85 : TI Try.prog 85 (.nilFunc) 1 8 := TI.of (by kernel_rfl)
theorem Ty.t86 : TI Try.prog 86 (.nilFunc) 1 8 := TI.of (by kernel_rfl)
theorem Ty.t87 : TI Try.prog 87 (.pointer none) 1 8 := TI.of (by kernel_rfl)
theorem Ty.t88 : TI Try.prog 88 (.agg #[.pointer none, .int .i64 0, .bool false]) 3 24 := TI.of (by kernel_rfl)
theorem Ty.t89 : TI Try.prog 89 (.agg #[.pointer none, .int .i64 0, .bool false]) 3 24 := TI.of (by kernel_rfl)
theorem Ty.t90 : TI Try.prog 90 (.nilFunc) 1 8 := TI.of (by kernel_rfl)
theorem Ty.t91 : TI Try.prog 91 (.nilFunc) 1 8 := TI.of (by kernel_rfl)
theorem Ty.t92 : TI Try.prog 92 (.agg #[.int .i64 0, .int .i64 0, .int .i64 0, .int .i64 0]) 4 32 := TI.of (by kernel_rfl)
theorem Ty.t93 : TI Try.prog 93 (.agg #[.int .i64 0, .int .i64 0, .int .i64 0, .int .i64 0, .int .i64 0]) 5 40 := TI.of (by kernel_rfl)
theorem Ty.t94 : TI Try.prog 94 (.agg #[.int .i64 0, .int .i64 0, .int .i64 0, .int .i64 0, .int .i64 0]) 5 40 := TI.of (by kernel_rfl)
theorem Ty.t95 : TI Try.prog 95 (.pointer none) 1 8 := TI.of (by kernel_rfl)
theorem Ty.t96 : TI Try.prog 96 (.map none) 1 8 := TI.of (by kernel_rfl)
theorem Ty.t97 : TI Try.prog 97 (.agg #[.pointer none, .map none, .int .i64 0]) 3 24 := TI.of (by kernel_rfl)
theorem Ty.t98 : TI Try.prog 98 (.agg #[.pointer none, .map none, .int .i64 0]) 3 24 := TI.of (by kernel_rfl)
theorem Ty.t99 : TI Try.prog 99 (.nilFunc) 1 8 := TI.of (by kernel_rfl)
theorem Ty.t100 : TI Try.prog 100 (.nilFunc) 1 8 := TI.of (by kernel_rfl)
theorem Ty.t101 : TI Try.prog 101 (.nilFunc) 1 8 := TI.of (by kernel_rfl)
theorem Ty.t102 : TI Try.prog 102 (.nilFunc) 1 8 := TI.of (by kernel_rfl)
theorem Ty.t103 : TI Try.prog 103 (.slice none 0 0) 1 24 := TI.of (by kernel_rfl)
theorem Ty.t104 : TI Try.prog 104 (.agg #[.slice none 0 0]) 1 24 := TI.of (by kernel_rfl)
theorem Ty.t105 : TI Try.prog 105 (.agg #[.slice none 0 0]) 1 24 := TI.of (by kernel_rfl)
theorem Ty.t107 : TI Try.prog 107 (.nilFunc) 1 8 := TI.of (by kernel_rfl)
theorem Ty.t108 : TI Try.prog 108 (.agg #[.int .i32 0, .int .i32 0, .int .i32 0, .int .i32 0, .int .i32 0, .int .i32 0, .int .i32 0, .int .i32 0]) 8 32 := TI.of (by kernel_rfl)
theorem Ty.t109 : TI Try.prog 109 (.nilFunc) 1 8 := TI.of (by kernel_rfl)
theorem Ty.t110 : TI Try.prog 110 (.nilFunc) 1 8 := TI.of (by kernel_rfl)
theorem Ty.t111 : TI Try.prog 111 (.nilFunc) 1 8 := TI.of (by kernel_rfl)
theorem Ty.t112 : TI Try.prog 112 (.nilFunc) 1 8 := TI.of (by kernel_rfl)
theorem Ty.t113 : TI Try.prog 113 (.nilFunc) 1 8 := TI.of (by kernel_rfl)
theorem Ty.t114 : TI Try.prog 114 (.nilFunc) 1 8 := TI.of (by kernel_rfl)
theorem Ty.t115 : TI Try.prog 115 (.nilFunc) 1 8 := TI.of (by kernel_rfl)
theorem Ty.t116 : TI Try.prog 116 (.nilFunc) 1 8 := TI.of (by kernel_rfl)
theorem Ty.t117 : TI Try.prog 117 (.nilFunc) 1 8 := TI.of (by kernel_rfl)
theorem Ty.t118 : TI Try.prog 118 (.nilFunc) 1 8 := TI.of (by kernel_rfl)
theorem Ty.t119 : TI Try.prog 119 (.nilFunc) 1 8 := TI.of (by kernel_rfl)
theorem Ty.t120 : TI Try.prog 120 (.nilIface) 1 16 := TI.of (by kernel_rfl)
theorem Ty.t121 : TI Try.prog 121 (.nilIface) 1 16 := TI.of (by kernel_rfl)
theorem Ty.t122 : TI Try.prog 122 (.pointer none) 1 8 := TI.of (by kernel_rfl)
theorem Ty.t123 : TI Try.prog 123 (.agg #[.string ⟨#[]⟩, .slice none 0 0, .nilIface, .int .i64 0, .slice none 0 0, .int .i64 0]) 6 96 := TI.of (by kernel_rfl)
theorem Ty.t124 : TI Try.prog 124 (.agg #[.string ⟨#[]⟩, .slice none 0 0, .nilIface, .int .i64 0, .slice none 0 0, .int .i64 0]) 6 96 := TI.of (by kernel_rfl)
theorem Ty.t125 : TI Try.prog 125 (.nilFunc) 1 8 := TI.of (by kernel_rfl)
theorem Ty.t126 : TI Try.prog 126 (.pointer none) 1 8 := TI.of (by kernel_rfl)
theorem Ty.t127 : TI Try.prog 127 (.nilFunc) 1 8 := TI.of (by kernel_rfl)
theorem Ty.t128 : TI Try.prog 128 (.agg #[.int .i32 0, .int .i32 0, .int .i32 0, .int .i32 0, .int .i32 0, .int .i32 0, .int .i32 0, .int .i32 0, .int .i64 0]) 9 40 := TI.of (by kernel_rfl)
theorem Ty.t129 : TI Try.prog 129 (.agg #[.int .i32 0, .int .i32 0, .int .i32 0, .int .i32 0, .int .i32 0, .int .i32 0, .int .i32 0, .int .i32 0, .int .i64 0]) 9 40 := TI.of (by kernel_rfl)
theorem Ty.t130 : TI Try.prog 130 (.slice none 0 0) 1 24 := TI.of (by kernel_rfl)
theorem Ty.t132 : TI Try.prog 132 (.nilFunc) 1 8 := TI.of (by kernel_rfl)
theorem Ty.t133 : TI Try.prog 133 (.slice none 0 0) 1 24 := TI.of (by kernel_rfl)
theorem Ty.t134 : TI Try.prog 134 (.agg #[.slice none 0 0]) 1 24 := TI.of (by kernel_rfl)
theorem Ty.t135 : TI Try.prog 135 (.agg #[.slice none 0 0]) 1 24 := TI.of (by kernel_rfl)
theorem Ty.t136 : TI Try.prog 136 (.nilFunc) 1 8 := TI.of (by kernel_rfl)
theorem Ty.t137 : TI Try.prog 137 (.nilFunc) 1 8 := TI.of (by kernel_rfl)
theorem Ty.t138 : TI Try.prog 138 (.nilFunc) 1 8 := TI.of (by kernel_rfl)
theorem Ty.t139 : TI Try.prog 139 (.nilFunc) 1 8 := TI.of (by kernel_rfl)
theorem Ty.t140 : TI Try.prog 140 (.nilFunc) 1 8 := TI.of (by kernel_rfl)
theorem Ty.t141 : TI Try.prog 141 (.nilFunc) 1 8 := TI.of (by kernel_rfl)
theorem Ty.t142 : TI Try.prog 142 (.nilFunc) 1 8 := TI.of (by kernel_rfl)
theorem Ty.t143 : TI Try.prog 143 (.nilFunc) 1 8 := TI.of (by kernel_rfl)
theorem Ty.t145 : TI Try.prog 145 (.nilFunc) 1 8 := TI.of (by kernel_rfl)
theorem Ty.t146 : TI Try.prog 146 (.nilFunc) 1 8 := TI.of (by kernel_rfl)
theorem Ty.t147 : TI Try.prog 147 (.nilFunc) 1 8 := TI.of (by kernel_rfl)
theorem Ty.t148 : TI Try.prog 148 (.nilFunc) 1 8 := TI.of (by kernel_rfl)
theorem Ty.t149 : TI Try.prog 149 (.int .u32 0) 1 4 := TI.of (by kernel_rfl)
theorem Ty.t150 : TI Try.prog 150 (.nilFunc) 1 8 := TI.of (by kernel_rfl)
theorem Ty.t151 : TI Try.prog 151 (.nilFunc) 1 8 := TI.of (by kernel_rfl)
theorem Ty.t152 : TI Try.prog 152 (.nilFunc) 1 8 := TI.of (by kernel_rfl)
theorem Ty.t153 : TI Try.prog 153 (.nilFunc) 1 8 := TI.of (by kernel_rfl)
theorem Ty.t154 : TI Try.prog 154 (.nilFunc) 1 8 := TI.of (by kernel_rfl)
theorem Ty.t155 : TI Try.prog 155 (.nilFunc) 1 8 := TI.of (by kernel_rfl)
theorem Ty.t156 : TI Try.prog 156 (.int .u64 0) 1 8 := TI.of (by kernel_rfl)
theorem Ty.t157 : TI Try.prog 157 (.int .u64 0) 1 8 := TI.of (by kernel_rfl)
theorem Ty.t158 : TI Try.prog 158 (.nilFunc) 1 8 := TI.of (by kernel_rfl)
theorem Ty.t159 : TI Try.prog 159 (.nilFunc) 1 8 := TI.of (by kernel_rfl)
theorem Ty.t160 : TI Try.prog 160 (.agg #[.pointer none, .pointer none, .pointer none, .string ⟨#[]⟩]) 4 40 := TI.of (by kernel_rfl)
theorem Ty.t161 : TI Try.prog 161 (.agg #[.pointer none, .pointer none, .pointer none, .string ⟨#[]⟩]) 4 40 := TI.of (by kernel_rfl)
theorem Ty.t162 : TI Try.prog 162 (.agg #[]) 0 0 := TI.of (by kernel_rfl)
theorem Ty.t163 : TI Try.prog 163 (.agg #[]) 0 0 := TI.of (by kernel_rfl)
theorem Ty.t164 : TI Try.prog 164 (.agg #[]) 0 0 := TI.of (by kernel_rfl)
theorem Ty.t165 : TI Try.prog 165 (.int .u8 0) 1 1 := TI.of (by kernel_rfl)
theorem Ty.t166 : TI Try.prog 166 (.int .u8 0) 1 1 := TI.of (by kernel_rfl)
theorem Ty.t167 : TI Try.prog 167 (.nilFunc) 1 8 := TI.of (by kernel_rfl)
theorem Ty.t168 : TI Try.prog 168 (.pointer none) 1 8 := TI.of (by kernel_rfl)
theorem Ty.t169 : TI Try.prog 169 (.int .i32 0) 1 4 := TI.of (by kernel_rfl)
theorem Ty.t170 : TI Try.prog 170 (.int .i32 0) 1 4 := TI.of (by kernel_rfl)
theorem Ty.t171 : TI Try.prog 171 (.agg #[.int .u64 0, .int .u64 0, .int .u32 0, .int .u8 0, .int .u8 0, .int .u8 0, .int .u8 0, .nilFunc, .pointer none, .int .i32 0, .int .i32 0]) 11 48 := TI.of (by kernel_rfl)
theorem Ty.t172 : TI Try.prog 172 (.agg #[.int .u64 0, .int .u64 0, .int .u32 0, .int .u8 0, .int .u8 0, .int .u8 0, .int .u8 0, .nilFunc, .pointer none, .int .i32 0, .int .i32 0]) 11 48 := TI.of (by kernel_rfl)
theorem Ty.t173 : TI Try.prog 173 (.nilFunc) 1 8 := TI.of (by kernel_rfl)
theorem Ty.t174 : TI Try.prog 174 (.pointer none) 1 8 := TI.of (by kernel_rfl)
theorem Ty.t175 : TI Try.prog 175 (.nilFunc) 1 8 := TI.of (by kernel_rfl)
theorem Ty.t176 : TI Try.prog 176 (.nilFunc) 1 8 := TI.of (by kernel_rfl)
theorem Ty.t177 : TI Try.prog 177 (.pointer none) 1 8 := TI.of (by kernel_rfl)
theorem Ty.c2 : callable Try.prog 2 = true := by kernel_rfl
theorem Ty.c3 : callable Try.prog 3 = true := by kernel_rfl
theorem Ty.c4 : callable Try.prog 4 = true := by kernel_rfl
theorem Ty.c5 : callable Try.prog 5 = true := by kernel_rfl
theorem Ty.c6 : callable Try.prog 6 = true := by kernel_rfl
theorem Ty.c7 : callable Try.prog 7 = true := by kernel_rfl
theorem Ty.c8 : callable Try.prog 8 = true := by kernel_rfl
theorem Ty.c9 : callable Try.prog 9 = true := by kernel_rfl
theorem Ty.c10 : callable Try.prog 10 = true := by kernel_rfl
theorem Ty.c11 : callable Try.prog 11 = true := by kernel_rfl
theorem Ty.c12 : callable Try.prog 12 = true := by kernel_rfl
theorem Ty.c13 : callable Try.prog 13 = true := by kernel_rfl
theorem Ty.c14 : callable Try.prog 14 = true := by kernel_rfl
theorem Ty.c15 : callable Try.prog 15 = true := by kernel_rfl
theorem Ty.c16 : callable Try.prog 16 = true := by kernel_rfl
theorem Ty.c17 : callable Try.prog 17 = true := by kernel_rfl
theorem Ty.c18 : callable Try.prog 18 = true := by kernel_rfl
theorem Ty.c19 : callable Try.prog 19 = true := by kernel_rfl
theorem Ty.c20 : callable Try.prog 20 = true := by kernel_rfl
theorem Ty.c21 : callable Try.prog 21 = true := by kernel_rfl
theorem Ty.c22 : callable Try.prog 22 = true := by kernel_rfl
theorem Ty.c23 : callable Try.prog 23 = true := by kernel_rfl
theorem Ty.c24 : callable Try.prog 24 = true := by kernel_rfl
theorem Ty.c25 : callable Try.prog 25 = true := by kernel_rfl
theorem Ty.c26 : callable Try.prog 26 = true := by kernel_rfl
theorem Ty.c27 : callable Try.prog 27 = true := by kernel_rfl
theorem Ty.c28 : callable Try.prog 28 = true := by kernel_rfl
theorem Ty.c29 : callable Try.prog 29 = true := by kernel_rfl
theorem Ty.c30 : callable Try.prog 30 = true := by kernel_rfl
theorem Ty.c31 : callable Try.prog 31 = true := by kernel_rfl
theorem Ty.c32 : callable Try.prog 32 = true := by kernel_rfl
theorem Ty.c33 : callable Try.prog 33 = true := by kernel_rfl
theorem Ty.c34 : callable Try.prog 34 = true := by kernel_rfl
theorem Ty.c35 : callable Try.prog 35 = true := by kernel_rfl
theorem Ty.c36 : callable Try.prog 36 = true := by kernel_rfl
theorem Ty.c37 : callable Try.prog 37 = true := by kernel_rfl
theorem Ty.c38 : callable Try.prog 38 = true := by kernel_rfl
theorem Ty.c39 : callable Try.prog 39 = true := by kernel_rfl
theorem Ty.c40 : callable Try.prog 40 = true := by kernel_rfl
theorem Ty.c41 : callable Try.prog 41 = true := by kernel_rfl
theorem Ty.c42 : callable Try.prog 42 = true := by kernel_rfl
theorem Ty.c43 : callable Try.prog 43 = true := by kernel_rfl
theorem Ty.c44 : callable Try.prog 44 = true := by kernel_rfl
theorem Ty.c45 : callable Try.prog 45 = true := by kernel_rfl
theorem Ty.c46 : callable Try.prog 46 = true := by kernel_rfl
theorem Ty.c47 : callable Try.prog 47 = true := by kernel_rfl
theorem Ty.c48 : callable Try.prog 48 = true := by kernel_rfl
theorem Ty.c49 : callable Try.prog 49 = true := by kernel_rfl
theorem Ty.c50 : callable Try.prog 50 = true := by kernel_rfl
theorem Ty.c51 : callable Try.prog 51 = true := by kernel_rfl
theorem Ty.c52 : callable Try.prog 52 = true := by kernel_rfl
theorem Ty.c53 : callable Try.prog 53 = true := by kernel_rfl
theorem Ty.c54 : callable Try.prog 54 = true := by kernel_rfl
theorem Ty.c55 : callable Try.prog 55 = true := by kernel_rfl
theorem Ty.c56 : callable Try.prog 56 = true := by kernel_rfl
theorem Ty.c57 : callable Try.prog 57 = true := by kernel_rfl
theorem Ty.c58 : callable Try.prog 58 = true := by kernel_rfl
theorem Ty.c59 : callable Try.prog 59 = true := by kernel_rfl
theorem Ty.c60 : callable Try.prog 60 = true := by kernel_rfl
theorem Ty.c61 : callable Try.prog 61 = true := by kernel_rfl
theorem Ty.c62 : callable Try.prog 62 = true := by kernel_rfl
theorem Ty.c63 : callable Try.prog 63 = true := by kernel_rfl
theorem Ty.c64 : callable Try.prog 64 = true := by kernel_rfl
theorem Ty.c65 : callable Try.prog 65 = true := by kernel_rfl
theorem Ty.c66 : callable Try.prog 66 = true := by kernel_rfl
theorem Ty.c67 : callable Try.prog 67 = true := by kernel_rfl
theorem Ty.c68 : callable Try.prog 68 = true := by kernel_rfl
theorem Ty.c69 : callable Try.prog 69 = true := by kernel_rfl
theorem Ty.c70 : callable Try.prog 70 = true := by kernel_rfl
theorem Ty.c71 : callable Try.prog 71 = true := by kernel_rfl
theorem Ty.c72 : callable Try.prog 72 = true := by kernel_rfl
theorem Ty.c73 : callable Try.prog 73 = true := by kernel_rfl
theorem Ty.c74 : callable Try.prog 74 = true := by kernel_rfl
theorem Ty.c75 : callable Try.prog 75 = true := by kernel_rfl
theorem Ty.c76 : callable Try.prog 76 = true := by kernel_rfl
theorem Ty.c77 : callable Try.prog 77 = true := by kernel_rfl
theorem Ty.c78 : callable Try.prog 78 = true := by kernel_rfl
theorem Ty.c79 : callable Try.prog 79 = true := by kernel_rfl
theorem Ty.c80 : callable Try.prog 80 = true := by kernel_rfl
theorem Ty.c81 : callable Try.prog 81 = true := by kernel_rfl
theorem Ty.c82 : callable Try.prog 82 = true := by kernel_rfl
theorem Ty.c83 : callable Try.prog 83 = true := by kernel_rfl
theorem Ty.c84 : callable Try.prog 84 = true := by kernel_rfl
theorem Ty.c85 : callable Try.prog 85 = true := by kernel_rfl
theorem Ty.c86 : callable Try.prog 86 = true := by kernel_rfl
theorem Ty.c87 : callable Try.prog 87 = true := by kernel_rfl
theorem Ty.c88 : callable Try.prog 88 = true := by kernel_rfl
theorem Ty.c89 : callable Try.prog 89 = true := by kernel_rfl
theorem Ty.c90 : callable Try.prog 90 = true := by kernel_rfl
theorem Ty.c91 : callable Try.prog 91 = true := by kernel_rfl
theorem Ty.c108 : callable Try.prog 108 = true := by kernel_rfl
theorem Ty.c109 : callable Try.prog 109 = true := by kernel_rfl
theorem Ty.c110 : callable Try.prog 110 = true := by kernel_rfl
theorem Ty.c113 : callable Try.prog 113 = true := by kernel_rfl
theorem Ty.c114 : callable Try.prog 114 = true := by kernel_rfl
theorem Ty.b7 : BuildT Try.prog 7 [(0, 1), (1, 1), (2, 1), (3, 1)] := ⟨_, Try.underlying7, fun w => by kernel_rfl⟩
theorem Ty.b8 : BuildT Try.prog 8 [(0, 1), (1, 1), (2, 1), (3, 1)] := ⟨_, Try.underlying8, fun w => by kernel_rfl⟩
theorem Ty.b13 : BuildT Try.prog 13 [(0, 1), (1, 1)] := ⟨_, Try.underlying13, fun w => by kernel_rfl⟩
theorem Ty.b14 : BuildT Try.prog 14 [(0, 1), (1, 1)] := ⟨_, Try.underlying14, fun w => by kernel_rfl⟩
theorem Ty.b18 : BuildT Try.prog 18 [(0, 1)] := ⟨_, Try.underlying18, fun w => by kernel_rfl⟩
theorem Ty.b19 : BuildT Try.prog 19 [(0, 1)] := ⟨_, Try.underlying19, fun w => by kernel_rfl⟩
theorem Ty.b25 : BuildT Try.prog 25 [(0, 1), (1, 1)] := ⟨_, Try.underlying25, fun w => by kernel_rfl⟩
theorem Ty.b26 : BuildT Try.prog 26 [(0, 1), (1, 1)] := ⟨_, Try.underlying26, fun w => by kernel_rfl⟩
theorem Ty.b38 : BuildT Try.prog 38 [(0, 1), (1, 1), (2, 1), (3, 1), (4, 1)] := ⟨_, Try.underlying38, fun w => by kernel_rfl⟩
theorem Ty.b39 : BuildT Try.prog 39 [(0, 1), (1, 1), (2, 1), (3, 1), (4, 1)] := ⟨_, Try.underlying39, fun w => by kernel_rfl⟩
theorem Ty.b47 : BuildT Try.prog 47 [(0, 1), (1, 1), (2, 1), (3, 1), (4, 1)] := ⟨_, Try.underlying47, fun w => by kernel_rfl⟩
theorem Ty.b48 : BuildT Try.prog 48 [(0, 1), (1, 1), (2, 1), (3, 1), (4, 1)] := ⟨_, Try.underlying48, fun w => by kernel_rfl⟩
theorem Ty.b51 : BuildT Try.prog 51 [(0, 1), (1, 1), (2, 1), (3, 1)] := ⟨_, Try.underlying51, fun w => by kernel_rfl⟩
theorem Ty.b52 : BuildT Try.prog 52 [(0, 1), (1, 1), (2, 1), (3, 1)] := ⟨_, Try.underlying52, fun w => by kernel_rfl⟩
theorem Ty.b54 : BuildT Try.prog 54 [(0, 1), (1, 1)] := ⟨_, Try.underlying54, fun w => by kernel_rfl⟩
theorem Ty.b55 : BuildT Try.prog 55 [(0, 1), (1, 1)] := ⟨_, Try.underlying55, fun w => by kernel_rfl⟩
theorem Ty.b56 : BuildT Try.prog 56 [(0, 2), (2, 1), (3, 1), (4, 1), (5, 1), (6, 2), (8, 1), (9, 1), (10, 1)] := ⟨_, Try.underlying56, fun w => by kernel_rfl⟩
theorem Ty.b57 : BuildT Try.prog 57 [(0, 2), (2, 1), (3, 1), (4, 1), (5, 1), (6, 2), (8, 1), (9, 1), (10, 1)] := ⟨_, Try.underlying57, fun w => by kernel_rfl⟩
theorem Ty.b76 : BuildT Try.prog 76 [(0, 1), (1, 1), (2, 1), (3, 1), (4, 1)] := ⟨_, Try.underlying76, fun w => by kernel_rfl⟩
theorem Ty.b77 : BuildT Try.prog 77 [(0, 1), (1, 1), (2, 1), (3, 1), (4, 1)] := ⟨_, Try.underlying77, fun w => by kernel_rfl⟩
theorem Ty.b88 : BuildT Try.prog 88 [(0, 1), (1, 1), (2, 1)] := ⟨_, Try.underlying88, fun w => by kernel_rfl⟩
theorem Ty.b89 : BuildT Try.prog 89 [(0, 1), (1, 1), (2, 1)] := ⟨_, Try.underlying89, fun w => by kernel_rfl⟩
theorem Ty.b93 : BuildT Try.prog 93 [(0, 4), (4, 1)] := ⟨_, Try.underlying93, fun w => by kernel_rfl⟩
theorem Ty.b94 : BuildT Try.prog 94 [(0, 4), (4, 1)] := ⟨_, Try.underlying94, fun w => by kernel_rfl⟩
theorem Ty.b97 : BuildT Try.prog 97 [(0, 1), (1, 1), (2, 1)] := ⟨_, Try.underlying97, fun w => by kernel_rfl⟩
theorem Ty.b98 : BuildT Try.prog 98 [(0, 1), (1, 1), (2, 1)] := ⟨_, Try.underlying98, fun w => by kernel_rfl⟩
theorem Ty.b104 : BuildT Try.prog 104 [(0, 1)] := ⟨_, Try.underlying104, fun w => by kernel_rfl⟩
theorem Ty.b105 : BuildT Try.prog 105 [(0, 1)] := ⟨_, Try.underlying105, fun w => by kernel_rfl⟩
theorem Ty.b123 : BuildT Try.prog 123 [(0, 2), (2, 1), (3, 1), (4, 1), (5, 1)] := ⟨_, Try.underlying123, fun w => by kernel_rfl⟩
theorem Ty.b124 : BuildT Try.prog 124 [(0, 2), (2, 1), (3, 1), (4, 1), (5, 1)] := ⟨_, Try.underlying124, fun w => by kernel_rfl⟩
theorem Ty.b128 : BuildT Try.prog 128 [(0, 8), (8, 1)] := ⟨_, Try.underlying128, fun w => by kernel_rfl⟩
theorem Ty.b129 : BuildT Try.prog 129 [(0, 8), (8, 1)] := ⟨_, Try.underlying129, fun w => by kernel_rfl⟩
theorem Ty.b134 : BuildT Try.prog 134 [(0, 1)] := ⟨_, Try.underlying134, fun w => by kernel_rfl⟩
theorem Ty.b135 : BuildT Try.prog 135 [(0, 1)] := ⟨_, Try.underlying135, fun w => by kernel_rfl⟩
theorem Ty.b160 : BuildT Try.prog 160 [(0, 1), (1, 1), (2, 1), (3, 1)] := ⟨_, Try.underlying160, fun w => by kernel_rfl⟩
theorem Ty.b161 : BuildT Try.prog 161 [(0, 1), (1, 1), (2, 1), (3, 1)] := ⟨_, Try.underlying161, fun w => by kernel_rfl⟩
theorem Ty.b163 : BuildT Try.prog 163 [(0, 0)] := ⟨_, Try.underlying163, fun w => by kernel_rfl⟩
theorem Ty.b164 : BuildT Try.prog 164 [(0, 0)] := ⟨_, Try.underlying164, fun w => by kernel_rfl⟩
theorem Ty.b171 : BuildT Try.prog 171 [(0, 1), (1, 1), (2, 1), (3, 1), (4, 1), (5, 1), (6, 1), (7, 1), (8, 1), (9, 1), (10, 1)] := ⟨_, Try.underlying171, fun w => by kernel_rfl⟩
theorem Ty.b172 : BuildT Try.prog 172 [(0, 1), (1, 1), (2, 1), (3, 1), (4, 1), (5, 1), (6, 1), (7, 1), (8, 1), (9, 1), (10, 1)] := ⟨_, Try.underlying172, fun w => by kernel_rfl⟩
instance : UOne Try.prog 2 := ⟨_, Try.underlying2, rfl⟩
instance : UOne Try.prog 3 := ⟨_, Try.underlying3, rfl⟩
instance : UOne Try.prog 4 := ⟨_, Try.underlying4, rfl⟩
instance : UOne Try.prog 5 := ⟨_, Try.underlying5, rfl⟩
instance : UOne Try.prog 9 := ⟨_, Try.underlying9, rfl⟩
instance : UOne Try.prog 21 := ⟨_, Try.underlying21, rfl⟩
instance : UOne Try.prog 22 := ⟨_, Try.underlying22, rfl⟩
instance : UOne Try.prog 24 := ⟨_, Try.underlying24, rfl⟩
instance : UOne Try.prog 33 := ⟨_, Try.underlying33, rfl⟩
instance : UOne Try.prog 34 := ⟨_, Try.underlying34, rfl⟩
instance : UOne Try.prog 35 := ⟨_, Try.underlying35, rfl⟩
instance : UOne Try.prog 36 := ⟨_, Try.underlying36, rfl⟩
instance : UOne Try.prog 37 := ⟨_, Try.underlying37, rfl⟩
instance : UOne Try.prog 40 := ⟨_, Try.underlying40, rfl⟩
instance : UOne Try.prog 46 := ⟨_, Try.underlying46, rfl⟩
instance : UOne Try.prog 53 := ⟨_, Try.underlying53, rfl⟩
instance : UOne Try.prog 95 := ⟨_, Try.underlying95, rfl⟩
instance : UOne Try.prog 96 := ⟨_, Try.underlying96, rfl⟩
instance : UOne Try.prog 103 := ⟨_, Try.underlying103, rfl⟩
instance : UOne Try.prog 121 := ⟨_, Try.underlying121, rfl⟩
instance : UOne Try.prog 133 := ⟨_, Try.underlying133, rfl⟩
instance : USl Try.prog 24 := ⟨_, Try.underlying24⟩
instance : USl Try.prog 27 := ⟨_, Try.underlying27⟩
instance : USl Try.prog 28 := ⟨_, Try.underlying28⟩
instance : USl Try.prog 40 := ⟨_, Try.underlying40⟩
instance : USl Try.prog 46 := ⟨_, Try.underlying46⟩
instance : USl Try.prog 53 := ⟨_, Try.underlying53⟩
instance : USl Try.prog 103 := ⟨_, Try.underlying103⟩
instance : USl Try.prog 130 := ⟨_, Try.underlying130⟩
instance : USl Try.prog 133 := ⟨_, Try.underlying133⟩
instance : UPtr Try.prog 22 := ⟨_, Try.underlying22⟩
instance : UPtr Try.prog 31 := ⟨_, Try.underlying31⟩
instance : UPtr Try.prog 33 := ⟨_, Try.underlying33⟩
instance : UPtr Try.prog 34 := ⟨_, Try.underlying34⟩
instance : UPtr Try.prog 35 := ⟨_, Try.underlying35⟩
instance : UPtr Try.prog 79 := ⟨_, Try.underlying79⟩
instance : UPtr Try.prog 95 := ⟨_, Try.underlying95⟩
instance : UPtr Try.prog 126 := ⟨_, Try.underlying126⟩
instance : UFld Try.prog 26 0 0 := ⟨_, _, _, _, _, Try.underlying26, rfl, Ty.t9, rfl⟩
instance : UFld Try.prog 26 1 1 := ⟨_, _, _, _, _, Try.underlying26, rfl, Ty.t24, rfl⟩
instance : UFld Try.prog 39 0 0 := ⟨_, _, _, _, _, Try.underlying39, rfl, Ty.t33, rfl⟩
instance : UFld Try.prog 39 1 1 := ⟨_, _, _, _, _, Try.underlying39, rfl, Ty.t34, rfl⟩
instance : UFld Try.prog 39 2 2 := ⟨_, _, _, _, _, Try.underlying39, rfl, Ty.t35, rfl⟩
instance : UFld Try.prog 39 3 3 := ⟨_, _, _, _, _, Try.underlying39, rfl, Ty.t36, rfl⟩
instance : UFld Try.prog 39 4 4 := ⟨_, _, _, _, _, Try.underlying39, rfl, Ty.t37, rfl⟩
instance : UFld Try.prog 48 0 0 := ⟨_, _, _, _, _, Try.underlying48, rfl, Ty.t2, rfl⟩
instance : UFld Try.prog 48 1 1 := ⟨_, _, _, _, _, Try.underlying48, rfl, Ty.t3, rfl⟩
instance : UFld Try.prog 48 2 2 := ⟨_, _, _, _, _, Try.underlying48, rfl, Ty.t46, rfl⟩
instance : UFld Try.prog 48 3 3 := ⟨_, _, _, _, _, Try.underlying48, rfl, Ty.t3, rfl⟩
instance : UFld Try.prog 48 4 4 := ⟨_, _, _, _, _, Try.underlying48, rfl, Ty.t37, rfl⟩
instance : UFld Try.prog 52 0 0 := ⟨_, _, _, _, _, Try.underlying52, rfl, Ty.t3, rfl⟩
instance : UFld Try.prog 52 1 1 := ⟨_, _, _, _, _, Try.underlying52, rfl, Ty.t3, rfl⟩
instance : UFld Try.prog 52 2 2 := ⟨_, _, _, _, _, Try.underlying52, rfl, Ty.t3, rfl⟩
instance : UFld Try.prog 52 3 3 := ⟨_, _, _, _, _, Try.underlying52, rfl, Ty.t3, rfl⟩
instance : UFld Try.prog 55 0 0 := ⟨_, _, _, _, _, Try.underlying55, rfl, Ty.t2, rfl⟩
instance : UFld Try.prog 55 1 1 := ⟨_, _, _, _, _, Try.underlying55, rfl, Ty.t2, rfl⟩
instance : UFld Try.prog 57 0 0 := ⟨_, _, _, _, _, Try.underlying57, rfl, Ty.t26, rfl⟩
instance : UFld Try.prog 57 1 2 := ⟨_, _, _, _, _, Try.underlying57, rfl, Ty.t34, rfl⟩
instance : UFld Try.prog 57 2 3 := ⟨_, _, _, _, _, Try.underlying57, rfl, Ty.t35, rfl⟩
instance : UFld Try.prog 57 3 4 := ⟨_, _, _, _, _, Try.underlying57, rfl, Ty.t33, rfl⟩
instance : UFld Try.prog 57 4 5 := ⟨_, _, _, _, _, Try.underlying57, rfl, Ty.t4, rfl⟩
instance : UFld Try.prog 57 5 6 := ⟨_, _, _, _, _, Try.underlying57, rfl, Ty.t55, rfl⟩
instance : UFld Try.prog 57 6 8 := ⟨_, _, _, _, _, Try.underlying57, rfl, Ty.t37, rfl⟩
instance : UFld Try.prog 57 7 9 := ⟨_, _, _, _, _, Try.underlying57, rfl, Ty.t3, rfl⟩
instance : UFld Try.prog 57 8 10 := ⟨_, _, _, _, _, Try.underlying57, rfl, Ty.t4, rfl⟩
instance : UFld Try.prog 77 0 0 := ⟨_, _, _, _, _, Try.underlying77, rfl, Ty.t33, rfl⟩
instance : UFld Try.prog 77 1 1 := ⟨_, _, _, _, _, Try.underlying77, rfl, Ty.t3, rfl⟩
instance : UFld Try.prog 77 2 2 := ⟨_, _, _, _, _, Try.underlying77, rfl, Ty.t40, rfl⟩
instance : UFld Try.prog 77 3 3 := ⟨_, _, _, _, _, Try.underlying77, rfl, Ty.t2, rfl⟩
instance : UFld Try.prog 77 4 4 := ⟨_, _, _, _, _, Try.underlying77, rfl, Ty.t2, rfl⟩
instance : UFld Try.prog 89 0 0 := ⟨_, _, _, _, _, Try.underlying89, rfl, Ty.t33, rfl⟩
instance : UFld Try.prog 89 1 1 := ⟨_, _, _, _, _, Try.underlying89, rfl, Ty.t37, rfl⟩
instance : UFld Try.prog 89 2 2 := ⟨_, _, _, _, _, Try.underlying89, rfl, Ty.t4, rfl⟩
instance : UFld Try.prog 94 0 0 := ⟨_, _, _, _, _, Try.underlying94, rfl, Ty.t92, rfl⟩
instance : UFld Try.prog 94 1 4 := ⟨_, _, _, _, _, Try.underlying94, rfl, Ty.t3, rfl⟩
instance : UFld Try.prog 98 0 0 := ⟨_, _, _, _, _, Try.underlying98, rfl, Ty.t95, rfl⟩
instance : UFld Try.prog 98 1 1 := ⟨_, _, _, _, _, Try.underlying98, rfl, Ty.t96, rfl⟩
instance : UFld Try.prog 98 2 2 := ⟨_, _, _, _, _, Try.underlying98, rfl, Ty.t37, rfl⟩
instance : UFld Try.prog 105 0 0 := ⟨_, _, _, _, _, Try.underlying105, rfl, Ty.t103, rfl⟩
instance : UFld Try.prog 124 0 0 := ⟨_, _, _, _, _, Try.underlying124, rfl, Ty.t26, rfl⟩
instance : UFld Try.prog 124 1 2 := ⟨_, _, _, _, _, Try.underlying124, rfl, Ty.t121, rfl⟩
instance : UFld Try.prog 124 2 3 := ⟨_, _, _, _, _, Try.underlying124, rfl, Ty.t3, rfl⟩
instance : UFld Try.prog 124 3 4 := ⟨_, _, _, _, _, Try.underlying124, rfl, Ty.t53, rfl⟩
instance : UFld Try.prog 124 4 5 := ⟨_, _, _, _, _, Try.underlying124, rfl, Ty.t3, rfl⟩
instance : UFld Try.prog 129 0 0 := ⟨_, _, _, _, _, Try.underlying129, rfl, Ty.t108, rfl⟩
instance : UFld Try.prog 129 1 8 := ⟨_, _, _, _, _, Try.underlying129, rfl, Ty.t3, rfl⟩
instance : UFld Try.prog 135 0 0 := ⟨_, _, _, _, _, Try.underlying135, rfl, Ty.t133, rfl⟩
theorem Ty.mixed : Try.prog.follows .mixedOrders = true := by kernel_rfl
end Go.Proofs.Ytneafbkhaooelaa

