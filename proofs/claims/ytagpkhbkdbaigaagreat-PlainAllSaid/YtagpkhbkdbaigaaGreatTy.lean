/- The program's types and functions, as far as the steps ask for them. -/
import Derived.Test.YtagpkhbkdbaigaaGreatFast
import Derived.Test.YtagpkhbkdbaigaaGreatRows
import Derived.KernelRfl
namespace Go.Proofs.YtagpkhbkdbaigaaGreat
open Go.RowKit
theorem Ty.t1 : TI Tryz.prog 1 (.nilFunc) 1 8:=TI.of (by kernel_rfl)
theorem Ty.t2 : TI Tryz.prog 2 (.int .i64 0) 1 8:=TI.of (by kernel_rfl)
theorem Ty.t3 : TI Tryz.prog 3 (.int .i64 0) 1 8:=TI.of (by kernel_rfl)
theorem Ty.t4 : TI Tryz.prog 4 (.bool false) 1 1:=TI.of (by kernel_rfl)
theorem Ty.t5 : TI Tryz.prog 5 (.int .u8 0) 1 1:=TI.of (by kernel_rfl)
theorem Ty.t9 : TI Tryz.prog 9 (.string ⟨#[]⟩) 1 16:=TI.of (by kernel_rfl)
theorem Ty.t21 : TI Tryz.prog 21 (.int .i32 0) 1 4:=TI.of (by kernel_rfl)
theorem Ty.t22 : TI Tryz.prog 22 (.slice none 0 0) 1 24:=TI.of (by kernel_rfl)
theorem Ty.t30 : TI Tryz.prog 30 (.agg #[.int .i64 0,.int .i64 0,.int .i64 0,.int .i64 0,.int .i64 0,.int .i64 0,.int .i64 0,.int .i64 0,.int .i64 0,.int .i64 0]) 10 80:=TI.of (by kernel_rfl)
theorem Ty.t31 : TI Tryz.prog 31 (.slice none 0 0) 1 24:=TI.of (by kernel_rfl)
theorem Ty.t33 : TI Tryz.prog 33 (.agg #[.string ⟨#[]⟩,.slice none 0 0]) 2 40:=TI.of (by kernel_rfl)
theorem Ty.t38 : TI Tryz.prog 38 (.int .u32 0) 1 4:=TI.of (by kernel_rfl)
theorem Ty.t40 : TI Tryz.prog 40 (.agg #[.int .i64 0,.int .i64 0,.int .i64 0,.int .i64 0,.int .i64 0,.slice none 0 0,.int .i64 0,.int .i64 0,.int .u32 0]) 9 88:=TI.of (by kernel_rfl)
theorem Ty.t46 : TI Tryz.prog 46 (.agg #[.int .i32 0,.int .i32 0,.int .i32 0,.int .i32 0,.int .i32 0,.int .i32 0,.int .i32 0,.int .i32 0,.int .i32 0,.int .i32 0,.int .i32 0,.int .i32 0,.int .i32 0,.int .i32 0,.int .i32 0,.int .i32 0,.int .i32 0,.int .i32 0,.int .i32 0,.int .i32 0,.int .i32 0,.int .i32 0,.int .i32 0,.int .i32 0,.int .i32 0,.int .i32 0,.int .i32 0,.int .i32 0,.int .i32 0,.int .i32 0,.int .i32 0,.int .i32 0]) 32 128:=TI.of (by kernel_rfl)
theorem Ty.t50 : TI Tryz.prog 50 (.agg #[.int .i64 0,.int .i64 0,.slice none 0 0]) 3 40:=TI.of (by kernel_rfl)
theorem Ty.t54 : TI Tryz.prog 54 (.agg #[.slice none 0 0]) 1 24:=TI.of (by kernel_rfl)
theorem Ty.t55 : TI Tryz.prog 55 (.slice none 0 0) 1 24:=TI.of (by kernel_rfl)
theorem Ty.t59 : TI Tryz.prog 59 (.pointer none) 1 8:=TI.of (by kernel_rfl)
theorem Ty.t63 : TI Tryz.prog 63 (.slice none 0 0) 1 24:=TI.of (by kernel_rfl)
theorem Ty.t67 : TI Tryz.prog 67 (.slice none 0 0) 1 24:=TI.of (by kernel_rfl)
theorem Ty.t74 : TI Tryz.prog 74 (.agg #[.int .i64 0,.slice none 0 0,.int .i64 0,.int .i64 0,.int .i64 0,.int .i64 0,.int .i64 0,.slice none 0 0,.int .i64 0,.int .i64 0,.int .u32 0,.bool false,.int .u32 0]) 13 128:=TI.of (by kernel_rfl)
theorem Ty.t78 : TI Tryz.prog 78 (.agg #[.int .i64 0,.int .i64 0,.slice none 0 0]) 3 40:=TI.of (by kernel_rfl)
theorem Ty.t83 : TI Tryz.prog 83 (.agg #[.int .i32 0,.int .i32 0,.int .i32 0,.int .i32 0,.int .i32 0,.int .i32 0,.int .i32 0,.int .i32 0,.int .i32 0,.int .i32 0,.int .i32 0,.int .i32 0,.int .i32 0,.int .i32 0,.int .i32 0,.int .i32 0,.int .i32 0,.int .i32 0,.int .i32 0,.int .i32 0,.int .i32 0,.int .i32 0,.int .i32 0,.int .i32 0,.int .i32 0,.int .i32 0,.int .i32 0,.int .i32 0,.int .i32 0,.int .i32 0,.int .i32 0,.int .i32 0]) 32 128:=TI.of (by kernel_rfl)
theorem Ty.t85 : TI Tryz.prog 85 (.agg #[.pointer none,.string ⟨#[]⟩,.slice none 0 0,.int .i64 0,.int .i64 0,.slice none 0 0,.int .i32 0,.int .i32 0,.int .i32 0,.int .i32 0,.int .i32 0,.int .i32 0,.int .i32 0,.int .i32 0,.int .i32 0,.int .i32 0,.int .i32 0,.int .i32 0,.int .i32 0,.int .i32 0,.int .i32 0,.int .i32 0,.int .i32 0,.int .i32 0,.int .i32 0,.int .i32 0,.int .i32 0,.int .i32 0,.int .i32 0,.int .i32 0,.int .i32 0,.int .i32 0,.int .i32 0,.int .i32 0,.int .i32 0,.int .i32 0,.int .i32 0,.int .i32 0]) 38 216:=TI.of (by kernel_rfl)
theorem Ty.t87 : TI Tryz.prog 87 (.agg #[.int .i64 0,.int .i64 0,.int .i64 0,.int .i64 0]) 4 32:=TI.of (by kernel_rfl)
theorem Ty.t93 : TI Tryz.prog 93 (.pointer none) 1 8:=TI.of (by kernel_rfl)
theorem Ty.t105 : TI Tryz.prog 105 (.pointer none) 1 8:=TI.of (by kernel_rfl)
theorem Ty.t108 : TI Tryz.prog 108 (.slice none 0 0) 1 24:=TI.of (by kernel_rfl)
theorem Ty.t109 : TI Tryz.prog 109 (.slice none 0 0) 1 24:=TI.of (by kernel_rfl)
theorem Ty.t111 : TI Tryz.prog 111 (.agg #[.int .i64 0,.int .i64 0,.int .i64 0,.int .i64 0,.int .i64 0,.int .i64 0,.int .i64 0,.int .i64 0,.int .i64 0,.int .i64 0,.pointer none,.slice none 0 0,.slice none 0 0,.slice none 0 0,.int .i64 0,.bool false]) 16 176:=TI.of (by kernel_rfl)
theorem Ty.t112 : TI Tryz.prog 112 (.pointer none) 1 8:=TI.of (by kernel_rfl)
theorem Ty.t115 : TI Tryz.prog 115 (.agg #[.pointer none,.string ⟨#[]⟩,.slice none 0 0,.int .i64 0,.int .i64 0,.slice none 0 0,.int .i32 0,.int .i32 0,.int .i32 0,.int .i32 0,.int .i32 0,.int .i32 0,.int .i32 0,.int .i32 0,.int .i32 0,.int .i32 0,.int .i32 0,.int .i32 0,.int .i32 0,.int .i32 0,.int .i32 0,.int .i32 0,.int .i32 0,.int .i32 0,.int .i32 0,.int .i32 0,.int .i32 0,.int .i32 0,.int .i32 0,.int .i32 0,.int .i32 0,.int .i32 0,.int .i32 0,.int .i32 0,.int .i32 0,.int .i32 0,.int .i32 0,.int .i32 0]) 38 216:=TI.of (by kernel_rfl)
theorem Ty.t123 : TI Tryz.prog 123 (.slice none 0 0) 1 24:=TI.of (by kernel_rfl)
theorem Ty.t124 : TI Tryz.prog 124 (.slice none 0 0) 1 24:=TI.of (by kernel_rfl)
theorem Ty.t125 : TI Tryz.prog 125 (.slice none 0 0) 1 24:=TI.of (by kernel_rfl)
theorem Ty.t127 : TI Tryz.prog 127 (.agg #[.int .i64 0,.int .i64 0,.int .i64 0,.int .i64 0,.int .i64 0,.int .i64 0,.int .i64 0,.int .i64 0,.int .i64 0,.int .i64 0,.slice none 0 0,.int .i64 0,.slice none 0 0,.slice none 0 0,.slice none 0 0,.slice none 0 0,.slice none 0 0,.slice none 0 0,.bool false]) 19 264:=TI.of (by kernel_rfl)
theorem Ty.t133 : TI Tryz.prog 133 (.agg #[.int .i64 0,.int .i64 0,.int .i64 0,.int .u32 0,.bool false]) 5 32:=TI.of (by kernel_rfl)
theorem Ty.t144 : TI Tryz.prog 144 (.agg #[.int .i64 0,.int .i64 0,.int .i64 0]) 3 24:=TI.of (by kernel_rfl)
theorem Ty.t151 : TI Tryz.prog 151 (.slice none 0 0) 1 24:=TI.of (by kernel_rfl)
theorem Ty.t153 : TI Tryz.prog 153 (.agg #[.slice none 0 0]) 1 24:=TI.of (by kernel_rfl)
theorem Ty.t164 : TI Tryz.prog 164 (.agg (List.replicate 256 (.int .i64 0)).toArray) 256 2048:=TI.of (by kernel_rfl)
theorem Ty.t166 : TI Tryz.prog 166 (.agg (List.replicate 256 (.bool false)).toArray) 256 256:=TI.of (by kernel_rfl)
theorem Ty.t169 : TI Tryz.prog 169 (.agg #[.slice none 0 0]) 1 24:=TI.of (by kernel_rfl)
theorem Ty.t172 : TI Tryz.prog 172 (.agg #[.int .i64 0,.int .i64 0,.slice none 0 0]) 3 40:=TI.of (by kernel_rfl)
theorem Ty.t176 : TI Tryz.prog 176 (.agg #[.int .i64 0,.int .i64 0,.slice none 0 0]) 3 40:=TI.of (by kernel_rfl)
theorem Ty.t182 : TI Tryz.prog 182 (.nilIface) 1 16:=TI.of (by kernel_rfl)
theorem Ty.t184 : TI Tryz.prog 184 (.agg #[.nilIface]) 1 16:=TI.of (by kernel_rfl)
theorem Ty.t190 : TI Tryz.prog 190 (.agg #[.int .i32 0,.int .i32 0,.int .i32 0,.int .i32 0,.int .i32 0,.int .i32 0,.int .i32 0,.int .i32 0,.int .i32 0,.int .i32 0,.int .i32 0,.int .i32 0,.int .i32 0,.int .i32 0,.int .i32 0,.int .i32 0,.int .i32 0,.int .i32 0,.int .i32 0,.int .i32 0,.int .i32 0,.int .i32 0,.int .i32 0,.int .i32 0,.int .i32 0,.int .i32 0,.int .i32 0,.int .i32 0,.int .i32 0,.int .i32 0,.int .i32 0,.int .i32 0]) 32 128:=TI.of (by kernel_rfl)
theorem Ty.t194 : TI Tryz.prog 194 (.agg #[.slice none 0 0,.bool false]) 2 32:=TI.of (by kernel_rfl)
theorem Ty.t210 : TI Tryz.prog 210 (.agg #[.int .i64 0,.int .u32 0]) 2 16:=TI.of (by kernel_rfl)
theorem Ty.t212 : TI Tryz.prog 212 (.agg #[.int .i64 0]) 1 8:=TI.of (by kernel_rfl)
theorem Ty.t213 : TI Tryz.prog 213 (.agg #[.int .i64 0]) 1 8:=TI.of (by kernel_rfl)
theorem Ty.t215 : TI Tryz.prog 215 (.agg #[.int .i64 0,.int .i64 0]) 2 16:=TI.of (by kernel_rfl)
theorem Ty.t218 : TI Tryz.prog 218 (.agg #[.int .i64 0,.int .i64 0,.int .i64 0,.int .i64 0]) 4 32:=TI.of (by kernel_rfl)
theorem Ty.t221 : TI Tryz.prog 221 (.nilIface) 1 16:=TI.of (by kernel_rfl)
theorem Ty.t224 : TI Tryz.prog 224 (.agg #[.string ⟨#[]⟩,.slice none 0 0,.nilIface,.int .i64 0,.slice none 0 0,.int .i64 0]) 6 96:=TI.of (by kernel_rfl)
theorem Ty.t228 : TI Tryz.prog 228 (.agg #[.int .i64 0,.int .i64 0,.int .i64 0]) 3 24:=TI.of (by kernel_rfl)
theorem Ty.t235 : TI Tryz.prog 235 (.agg #[.int .i64 0,.int .i64 0,.int .i64 0,.int .i64 0]) 4 32:=TI.of (by kernel_rfl)
theorem Ty.c2 : callable Tryz.prog 2=true:=by kernel_rfl
theorem Ty.c3 : callable Tryz.prog 3=true:=by kernel_rfl
theorem Ty.c4 : callable Tryz.prog 4=true:=by kernel_rfl
theorem Ty.c5 : callable Tryz.prog 5=true:=by kernel_rfl
theorem Ty.c6 : callable Tryz.prog 6=true:=by kernel_rfl
theorem Ty.c7 : callable Tryz.prog 7=true:=by kernel_rfl
theorem Ty.c8 : callable Tryz.prog 8=true:=by kernel_rfl
theorem Ty.c9 : callable Tryz.prog 9=true:=by kernel_rfl
theorem Ty.c10 : callable Tryz.prog 10=true:=by kernel_rfl
theorem Ty.c11 : callable Tryz.prog 11=true:=by kernel_rfl
theorem Ty.c12 : callable Tryz.prog 12=true:=by kernel_rfl
theorem Ty.c13 : callable Tryz.prog 13=true:=by kernel_rfl
theorem Ty.c14 : callable Tryz.prog 14=true:=by kernel_rfl
theorem Ty.c15 : callable Tryz.prog 15=true:=by kernel_rfl
theorem Ty.c16 : callable Tryz.prog 16=true:=by kernel_rfl
theorem Ty.c17 : callable Tryz.prog 17=true:=by kernel_rfl
theorem Ty.c18 : callable Tryz.prog 18=true:=by kernel_rfl
theorem Ty.c19 : callable Tryz.prog 19=true:=by kernel_rfl
theorem Ty.c20 : callable Tryz.prog 20=true:=by kernel_rfl
theorem Ty.c21 : callable Tryz.prog 21=true:=by kernel_rfl
theorem Ty.c22 : callable Tryz.prog 22=true:=by kernel_rfl
theorem Ty.c23 : callable Tryz.prog 23=true:=by kernel_rfl
theorem Ty.c24 : callable Tryz.prog 24=true:=by kernel_rfl
theorem Ty.c25 : callable Tryz.prog 25=true:=by kernel_rfl
theorem Ty.c26 : callable Tryz.prog 26=true:=by kernel_rfl
theorem Ty.c27 : callable Tryz.prog 27=true:=by kernel_rfl
theorem Ty.c28 : callable Tryz.prog 28=true:=by kernel_rfl
theorem Ty.c29 : callable Tryz.prog 29=true:=by kernel_rfl
theorem Ty.c30 : callable Tryz.prog 30=true:=by kernel_rfl
theorem Ty.c31 : callable Tryz.prog 31=true:=by kernel_rfl
theorem Ty.c32 : callable Tryz.prog 32=true:=by kernel_rfl
theorem Ty.c33 : callable Tryz.prog 33=true:=by kernel_rfl
theorem Ty.c34 : callable Tryz.prog 34=true:=by kernel_rfl
theorem Ty.c35 : callable Tryz.prog 35=true:=by kernel_rfl
theorem Ty.c36 : callable Tryz.prog 36=true:=by kernel_rfl
theorem Ty.c37 : callable Tryz.prog 37=true:=by kernel_rfl
theorem Ty.c38 : callable Tryz.prog 38=true:=by kernel_rfl
theorem Ty.c39 : callable Tryz.prog 39=true:=by kernel_rfl
theorem Ty.c40 : callable Tryz.prog 40=true:=by kernel_rfl
theorem Ty.c41 : callable Tryz.prog 41=true:=by kernel_rfl
theorem Ty.c42 : callable Tryz.prog 42=true:=by kernel_rfl
theorem Ty.c43 : callable Tryz.prog 43=true:=by kernel_rfl
theorem Ty.c44 : callable Tryz.prog 44=true:=by kernel_rfl
theorem Ty.c45 : callable Tryz.prog 45=true:=by kernel_rfl
theorem Ty.c46 : callable Tryz.prog 46=true:=by kernel_rfl
theorem Ty.c47 : callable Tryz.prog 47=true:=by kernel_rfl
theorem Ty.c48 : callable Tryz.prog 48=true:=by kernel_rfl
theorem Ty.c49 : callable Tryz.prog 49=true:=by kernel_rfl
theorem Ty.c50 : callable Tryz.prog 50=true:=by kernel_rfl
theorem Ty.c51 : callable Tryz.prog 51=true:=by kernel_rfl
theorem Ty.c52 : callable Tryz.prog 52=true:=by kernel_rfl
theorem Ty.c53 : callable Tryz.prog 53=true:=by kernel_rfl
theorem Ty.c54 : callable Tryz.prog 54=true:=by kernel_rfl
theorem Ty.c55 : callable Tryz.prog 55=true:=by kernel_rfl
theorem Ty.c56 : callable Tryz.prog 56=true:=by kernel_rfl
theorem Ty.c57 : callable Tryz.prog 57=true:=by kernel_rfl
theorem Ty.c58 : callable Tryz.prog 58=true:=by kernel_rfl
theorem Ty.c59 : callable Tryz.prog 59=true:=by kernel_rfl
theorem Ty.c60 : callable Tryz.prog 60=true:=by kernel_rfl
theorem Ty.c61 : callable Tryz.prog 61=true:=by kernel_rfl
theorem Ty.c62 : callable Tryz.prog 62=true:=by kernel_rfl
theorem Ty.c63 : callable Tryz.prog 63=true:=by kernel_rfl
theorem Ty.c64 : callable Tryz.prog 64=true:=by kernel_rfl
theorem Ty.c65 : callable Tryz.prog 65=true:=by kernel_rfl
theorem Ty.c66 : callable Tryz.prog 66=true:=by kernel_rfl
theorem Ty.c67 : callable Tryz.prog 67=true:=by kernel_rfl
theorem Ty.c68 : callable Tryz.prog 68=true:=by kernel_rfl
theorem Ty.c69 : callable Tryz.prog 69=true:=by kernel_rfl
theorem Ty.c70 : callable Tryz.prog 70=true:=by kernel_rfl
theorem Ty.c71 : callable Tryz.prog 71=true:=by kernel_rfl
theorem Ty.c72 : callable Tryz.prog 72=true:=by kernel_rfl
theorem Ty.c73 : callable Tryz.prog 73=true:=by kernel_rfl
theorem Ty.c74 : callable Tryz.prog 74=true:=by kernel_rfl
theorem Ty.c75 : callable Tryz.prog 75=true:=by kernel_rfl
theorem Ty.c76 : callable Tryz.prog 76=true:=by kernel_rfl
theorem Ty.c77 : callable Tryz.prog 77=true:=by kernel_rfl
theorem Ty.c78 : callable Tryz.prog 78=true:=by kernel_rfl
theorem Ty.c79 : callable Tryz.prog 79=true:=by kernel_rfl
theorem Ty.c80 : callable Tryz.prog 80=true:=by kernel_rfl
theorem Ty.c81 : callable Tryz.prog 81=true:=by kernel_rfl
theorem Ty.c82 : callable Tryz.prog 82=true:=by kernel_rfl
theorem Ty.c83 : callable Tryz.prog 83=true:=by kernel_rfl
theorem Ty.c84 : callable Tryz.prog 84=true:=by kernel_rfl
theorem Ty.c85 : callable Tryz.prog 85=true:=by kernel_rfl
theorem Ty.c86 : callable Tryz.prog 86=true:=by kernel_rfl
theorem Ty.c87 : callable Tryz.prog 87=true:=by kernel_rfl
theorem Ty.c88 : callable Tryz.prog 88=true:=by kernel_rfl
theorem Ty.c89 : callable Tryz.prog 89=true:=by kernel_rfl
theorem Ty.c90 : callable Tryz.prog 90=true:=by kernel_rfl
theorem Ty.c91 : callable Tryz.prog 91=true:=by kernel_rfl
theorem Ty.c92 : callable Tryz.prog 92=true:=by kernel_rfl
theorem Ty.c93 : callable Tryz.prog 93=true:=by kernel_rfl
theorem Ty.c94 : callable Tryz.prog 94=true:=by kernel_rfl
theorem Ty.c95 : callable Tryz.prog 95=true:=by kernel_rfl
theorem Ty.c96 : callable Tryz.prog 96=true:=by kernel_rfl
theorem Ty.c97 : callable Tryz.prog 97=true:=by kernel_rfl
theorem Ty.c98 : callable Tryz.prog 98=true:=by kernel_rfl
theorem Ty.c99 : callable Tryz.prog 99=true:=by kernel_rfl
theorem Ty.c100 : callable Tryz.prog 100=true:=by kernel_rfl
theorem Ty.c101 : callable Tryz.prog 101=true:=by kernel_rfl
theorem Ty.c102 : callable Tryz.prog 102=true:=by kernel_rfl
theorem Ty.c103 : callable Tryz.prog 103=true:=by kernel_rfl
theorem Ty.c104 : callable Tryz.prog 104=true:=by kernel_rfl
theorem Ty.c105 : callable Tryz.prog 105=true:=by kernel_rfl
theorem Ty.c106 : callable Tryz.prog 106=true:=by kernel_rfl
theorem Ty.c107 : callable Tryz.prog 107=true:=by kernel_rfl
theorem Ty.c108 : callable Tryz.prog 108=true:=by kernel_rfl
theorem Ty.c109 : callable Tryz.prog 109=true:=by kernel_rfl
theorem Ty.c110 : callable Tryz.prog 110=true:=by kernel_rfl
theorem Ty.c111 : callable Tryz.prog 111=true:=by kernel_rfl
theorem Ty.c112 : callable Tryz.prog 112=true:=by kernel_rfl
theorem Ty.c113 : callable Tryz.prog 113=true:=by kernel_rfl
theorem Ty.c114 : callable Tryz.prog 114=true:=by kernel_rfl
theorem Ty.c115 : callable Tryz.prog 115=true:=by kernel_rfl
theorem Ty.c116 : callable Tryz.prog 116=true:=by kernel_rfl
theorem Ty.c117 : callable Tryz.prog 117=true:=by kernel_rfl
theorem Ty.c118 : callable Tryz.prog 118=true:=by kernel_rfl
theorem Ty.c119 : callable Tryz.prog 119=true:=by kernel_rfl
theorem Ty.c120 : callable Tryz.prog 120=true:=by kernel_rfl
theorem Ty.c121 : callable Tryz.prog 121=true:=by kernel_rfl
theorem Ty.c122 : callable Tryz.prog 122=true:=by kernel_rfl
theorem Ty.c123 : callable Tryz.prog 123=true:=by kernel_rfl
theorem Ty.c124 : callable Tryz.prog 124=true:=by kernel_rfl
theorem Ty.c125 : callable Tryz.prog 125=true:=by kernel_rfl
theorem Ty.c126 : callable Tryz.prog 126=true:=by kernel_rfl
theorem Ty.c127 : callable Tryz.prog 127=true:=by kernel_rfl
theorem Ty.c128 : callable Tryz.prog 128=true:=by kernel_rfl
theorem Ty.c129 : callable Tryz.prog 129=true:=by kernel_rfl
theorem Ty.c130 : callable Tryz.prog 130=true:=by kernel_rfl
theorem Ty.c131 : callable Tryz.prog 131=true:=by kernel_rfl
theorem Ty.c132 : callable Tryz.prog 132=true:=by kernel_rfl
theorem Ty.c133 : callable Tryz.prog 133=true:=by kernel_rfl
theorem Ty.c134 : callable Tryz.prog 134=true:=by kernel_rfl
theorem Ty.c135 : callable Tryz.prog 135=true:=by kernel_rfl
theorem Ty.c136 : callable Tryz.prog 136=true:=by kernel_rfl
theorem Ty.c137 : callable Tryz.prog 137=true:=by kernel_rfl
theorem Ty.c138 : callable Tryz.prog 138=true:=by kernel_rfl
theorem Ty.c139 : callable Tryz.prog 139=true:=by kernel_rfl
theorem Ty.c140 : callable Tryz.prog 140=true:=by kernel_rfl
theorem Ty.c141 : callable Tryz.prog 141=true:=by kernel_rfl
theorem Ty.c142 : callable Tryz.prog 142=true:=by kernel_rfl
theorem Ty.c143 : callable Tryz.prog 143=true:=by kernel_rfl
theorem Ty.c144 : callable Tryz.prog 144=true:=by kernel_rfl
theorem Ty.c145 : callable Tryz.prog 145=true:=by kernel_rfl
theorem Ty.c146 : callable Tryz.prog 146=true:=by kernel_rfl
theorem Ty.c147 : callable Tryz.prog 147=true:=by kernel_rfl
theorem Ty.c148 : callable Tryz.prog 148=true:=by kernel_rfl
theorem Ty.c149 : callable Tryz.prog 149=true:=by kernel_rfl
theorem Ty.c150 : callable Tryz.prog 150=true:=by kernel_rfl
theorem Ty.c151 : callable Tryz.prog 151=true:=by kernel_rfl
theorem Ty.c152 : callable Tryz.prog 152=true:=by kernel_rfl
theorem Ty.c153 : callable Tryz.prog 153=true:=by kernel_rfl
theorem Ty.c154 : callable Tryz.prog 154=true:=by kernel_rfl
theorem Ty.c155 : callable Tryz.prog 155=true:=by kernel_rfl
theorem Ty.c156 : callable Tryz.prog 156=true:=by kernel_rfl
theorem Ty.c157 : callable Tryz.prog 157=true:=by kernel_rfl
theorem Ty.c158 : callable Tryz.prog 158=true:=by kernel_rfl
theorem Ty.c159 : callable Tryz.prog 159=true:=by kernel_rfl
theorem Ty.c162 : callable Tryz.prog 162=true:=by kernel_rfl
theorem Ty.c163 : callable Tryz.prog 163=true:=by kernel_rfl
theorem Ty.c164 : callable Tryz.prog 164=true:=by kernel_rfl
theorem Ty.c165 : callable Tryz.prog 165=true:=by kernel_rfl
theorem Ty.c166 : callable Tryz.prog 166=true:=by kernel_rfl
theorem Ty.c167 : callable Tryz.prog 167=true:=by kernel_rfl
theorem Ty.c168 : callable Tryz.prog 168=true:=by kernel_rfl
theorem Ty.c170 : callable Tryz.prog 170=true:=by kernel_rfl
theorem Ty.c171 : callable Tryz.prog 171=true:=by kernel_rfl
theorem Ty.c172 : callable Tryz.prog 172=true:=by kernel_rfl
theorem Ty.c173 : callable Tryz.prog 173=true:=by kernel_rfl
theorem Ty.c176 : callable Tryz.prog 176=true:=by kernel_rfl
theorem Ty.c177 : callable Tryz.prog 177=true:=by kernel_rfl
theorem Ty.c178 : callable Tryz.prog 178=true:=by kernel_rfl
theorem Ty.c179 : callable Tryz.prog 179=true:=by kernel_rfl
theorem Ty.c180 : callable Tryz.prog 180=true:=by kernel_rfl
theorem Ty.c199 : callable Tryz.prog 199=true:=by kernel_rfl
theorem Ty.c200 : callable Tryz.prog 200=true:=by kernel_rfl
theorem Ty.b7 : BuildT Tryz.prog 7 [(0,1),(1,1),(2,1),(3,1)]:=⟨_,Tryz.underlying7,fun w=>by kernel_rfl⟩
theorem Ty.b8 : BuildT Tryz.prog 8 [(0,1),(1,1),(2,1),(3,1)]:=⟨_,Tryz.underlying8,fun w=>by kernel_rfl⟩
theorem Ty.b13 : BuildT Tryz.prog 13 [(0,1),(1,1)]:=⟨_,Tryz.underlying13,fun w=>by kernel_rfl⟩
theorem Ty.b14 : BuildT Tryz.prog 14 [(0,1),(1,1)]:=⟨_,Tryz.underlying14,fun w=>by kernel_rfl⟩
theorem Ty.b18 : BuildT Tryz.prog 18 [(0,1)]:=⟨_,Tryz.underlying18,fun w=>by kernel_rfl⟩
theorem Ty.b19 : BuildT Tryz.prog 19 [(0,1)]:=⟨_,Tryz.underlying19,fun w=>by kernel_rfl⟩
theorem Ty.b30 : BuildT Tryz.prog 30 [(0,1),(1,1),(2,1),(3,1),(4,1),(5,1),(6,1),(7,1),(8,1),(9,1)]:=⟨_,Tryz.underlying30,fun w=>by kernel_rfl⟩
theorem Ty.b32 : BuildT Tryz.prog 32 [(0,1),(1,1)]:=⟨_,Tryz.underlying32,fun w=>by kernel_rfl⟩
theorem Ty.b33 : BuildT Tryz.prog 33 [(0,1),(1,1)]:=⟨_,Tryz.underlying33,fun w=>by kernel_rfl⟩
theorem Ty.b40 : BuildT Tryz.prog 40 [(0,1),(1,1),(2,1),(3,1),(4,1),(5,1),(6,1),(7,1),(8,1)]:=⟨_,Tryz.underlying40,fun w=>by kernel_rfl⟩
theorem Ty.b50 : BuildT Tryz.prog 50 [(0,1),(1,1),(2,1)]:=⟨_,Tryz.underlying50,fun w=>by kernel_rfl⟩
theorem Ty.b54 : BuildT Tryz.prog 54 [(0,1)]:=⟨_,Tryz.underlying54,fun w=>by kernel_rfl⟩
theorem Ty.b74 : BuildT Tryz.prog 74 [(0,1),(1,1),(2,9),(11,1),(12,1)]:=⟨_,Tryz.underlying74,fun w=>by kernel_rfl⟩
theorem Ty.b78 : BuildT Tryz.prog 78 [(0,1),(1,1),(2,1)]:=⟨_,Tryz.underlying78,fun w=>by kernel_rfl⟩
theorem Ty.b85 : BuildT Tryz.prog 85 [(0,1),(1,2),(3,3),(6,32)]:=⟨_,Tryz.underlying85,fun w=>by kernel_rfl⟩
theorem Ty.b87 : BuildT Tryz.prog 87 [(0,1),(1,1),(2,1),(3,1)]:=⟨_,Tryz.underlying87,fun w=>by kernel_rfl⟩
theorem Ty.b110 : BuildT Tryz.prog 110 [(0,10),(10,1),(11,1),(12,1),(13,1),(14,1),(15,1)]:=⟨_,Tryz.underlying110,fun w=>by kernel_rfl⟩
theorem Ty.b111 : BuildT Tryz.prog 111 [(0,10),(10,1),(11,1),(12,1),(13,1),(14,1),(15,1)]:=⟨_,Tryz.underlying111,fun w=>by kernel_rfl⟩
theorem Ty.b114 : BuildT Tryz.prog 114 [(0,1),(1,2),(3,3),(6,32)]:=⟨_,Tryz.underlying114,fun w=>by kernel_rfl⟩
theorem Ty.b115 : BuildT Tryz.prog 115 [(0,1),(1,2),(3,3),(6,32)]:=⟨_,Tryz.underlying115,fun w=>by kernel_rfl⟩
theorem Ty.b127 : BuildT Tryz.prog 127 [(0,10),(10,1),(11,1),(12,1),(13,1),(14,1),(15,1),(16,1),(17,1),(18,1)]:=⟨_,Tryz.underlying127,fun w=>by kernel_rfl⟩
theorem Ty.b133 : BuildT Tryz.prog 133 [(0,1),(1,1),(2,1),(3,1),(4,1)]:=⟨_,Tryz.underlying133,fun w=>by kernel_rfl⟩
theorem Ty.b144 : BuildT Tryz.prog 144 [(0,1),(1,1),(2,1)]:=⟨_,Tryz.underlying144,fun w=>by kernel_rfl⟩
theorem Ty.b153 : BuildT Tryz.prog 153 [(0,1)]:=⟨_,Tryz.underlying153,fun w=>by kernel_rfl⟩
theorem Ty.b169 : BuildT Tryz.prog 169 [(0,1)]:=⟨_,Tryz.underlying169,fun w=>by kernel_rfl⟩
theorem Ty.b172 : BuildT Tryz.prog 172 [(0,1),(1,1),(2,1)]:=⟨_,Tryz.underlying172,fun w=>by kernel_rfl⟩
theorem Ty.b176 : BuildT Tryz.prog 176 [(0,1),(1,1),(2,1)]:=⟨_,Tryz.underlying176,fun w=>by kernel_rfl⟩
theorem Ty.b184 : BuildT Tryz.prog 184 [(0,1)]:=⟨_,Tryz.underlying184,fun w=>by kernel_rfl⟩
theorem Ty.b190 : BuildT Tryz.prog 190 [(0,32)]:=⟨_,Tryz.underlying190,fun w=>by kernel_rfl⟩
theorem Ty.b194 : BuildT Tryz.prog 194 [(0,1),(1,1)]:=⟨_,Tryz.underlying194,fun w=>by kernel_rfl⟩
theorem Ty.b210 : BuildT Tryz.prog 210 [(0,1),(1,1)]:=⟨_,Tryz.underlying210,fun w=>by kernel_rfl⟩
theorem Ty.b212 : BuildT Tryz.prog 212 [(0,1)]:=⟨_,Tryz.underlying212,fun w=>by kernel_rfl⟩
theorem Ty.b213 : BuildT Tryz.prog 213 [(0,1)]:=⟨_,Tryz.underlying213,fun w=>by kernel_rfl⟩
theorem Ty.b215 : BuildT Tryz.prog 215 [(0,1),(1,1)]:=⟨_,Tryz.underlying215,fun w=>by kernel_rfl⟩
theorem Ty.b224 : BuildT Tryz.prog 224 [(0,2),(2,1),(3,1),(4,1),(5,1)]:=⟨_,Tryz.underlying224,fun w=>by kernel_rfl⟩
instance : UOne Tryz.prog 2:=⟨_,Tryz.underlying2,rfl⟩
instance : UOne Tryz.prog 3:=⟨_,Tryz.underlying3,rfl⟩
instance : UOne Tryz.prog 4:=⟨_,Tryz.underlying4,rfl⟩
instance : UOne Tryz.prog 5:=⟨_,Tryz.underlying5,rfl⟩
instance : UOne Tryz.prog 9:=⟨_,Tryz.underlying9,rfl⟩
instance : UOne Tryz.prog 21:=⟨_,Tryz.underlying21,rfl⟩
instance : UOne Tryz.prog 22:=⟨_,Tryz.underlying22,rfl⟩
instance : UOne Tryz.prog 31:=⟨_,Tryz.underlying31,rfl⟩
instance : UOne Tryz.prog 38:=⟨_,Tryz.underlying38,rfl⟩
instance : UOne Tryz.prog 55:=⟨_,Tryz.underlying55,rfl⟩
instance : UOne Tryz.prog 59:=⟨_,Tryz.underlying59,rfl⟩
instance : UOne Tryz.prog 63:=⟨_,Tryz.underlying63,rfl⟩
instance : UOne Tryz.prog 67:=⟨_,Tryz.underlying67,rfl⟩
instance : UOne Tryz.prog 93:=⟨_,Tryz.underlying93,rfl⟩
instance : UOne Tryz.prog 105:=⟨_,Tryz.underlying105,rfl⟩
instance : UOne Tryz.prog 108:=⟨_,Tryz.underlying108,rfl⟩
instance : UOne Tryz.prog 109:=⟨_,Tryz.underlying109,rfl⟩
instance : UOne Tryz.prog 112:=⟨_,Tryz.underlying112,rfl⟩
instance : UOne Tryz.prog 123:=⟨_,Tryz.underlying123,rfl⟩
instance : UOne Tryz.prog 124:=⟨_,Tryz.underlying124,rfl⟩
instance : UOne Tryz.prog 125:=⟨_,Tryz.underlying125,rfl⟩
instance : UOne Tryz.prog 151:=⟨_,Tryz.underlying151,rfl⟩
instance : UOne Tryz.prog 182:=⟨_,Tryz.underlying182,rfl⟩
instance : UOne Tryz.prog 221:=⟨_,Tryz.underlying221,rfl⟩
instance : USl Tryz.prog 22:=⟨_,Tryz.underlying22⟩
instance : USl Tryz.prog 31:=⟨_,Tryz.underlying31⟩
instance : USl Tryz.prog 41:=⟨_,Tryz.underlying41⟩
instance : USl Tryz.prog 55:=⟨_,Tryz.underlying55⟩
instance : USl Tryz.prog 63:=⟨_,Tryz.underlying63⟩
instance : USl Tryz.prog 65:=⟨_,Tryz.underlying65⟩
instance : USl Tryz.prog 67:=⟨_,Tryz.underlying67⟩
instance : USl Tryz.prog 69:=⟨_,Tryz.underlying69⟩
instance : USl Tryz.prog 108:=⟨_,Tryz.underlying108⟩
instance : USl Tryz.prog 109:=⟨_,Tryz.underlying109⟩
instance : USl Tryz.prog 119:=⟨_,Tryz.underlying119⟩
instance : USl Tryz.prog 125:=⟨_,Tryz.underlying125⟩
instance : USl Tryz.prog 151:=⟨_,Tryz.underlying151⟩
instance : USl Tryz.prog 154:=⟨_,Tryz.underlying154⟩
instance : UPtr Tryz.prog 25:=⟨_,Tryz.underlying25⟩
instance : UPtr Tryz.prog 59:=⟨_,Tryz.underlying59⟩
instance : UPtr Tryz.prog 93:=⟨_,Tryz.underlying93⟩
instance : UPtr Tryz.prog 105:=⟨_,Tryz.underlying105⟩
instance : UFld Tryz.prog 30 0 0:=⟨_,_,_,_,_,Tryz.underlying30,rfl,Ty.t3,rfl⟩
instance : UFld Tryz.prog 30 1 1:=⟨_,_,_,_,_,Tryz.underlying30,rfl,Ty.t3,rfl⟩
instance : UFld Tryz.prog 30 2 2:=⟨_,_,_,_,_,Tryz.underlying30,rfl,Ty.t2,rfl⟩
instance : UFld Tryz.prog 30 3 3:=⟨_,_,_,_,_,Tryz.underlying30,rfl,Ty.t3,rfl⟩
instance : UFld Tryz.prog 30 4 4:=⟨_,_,_,_,_,Tryz.underlying30,rfl,Ty.t3,rfl⟩
instance : UFld Tryz.prog 30 5 5:=⟨_,_,_,_,_,Tryz.underlying30,rfl,Ty.t3,rfl⟩
instance : UFld Tryz.prog 30 6 6:=⟨_,_,_,_,_,Tryz.underlying30,rfl,Ty.t3,rfl⟩
instance : UFld Tryz.prog 30 7 7:=⟨_,_,_,_,_,Tryz.underlying30,rfl,Ty.t3,rfl⟩
instance : UFld Tryz.prog 30 8 8:=⟨_,_,_,_,_,Tryz.underlying30,rfl,Ty.t3,rfl⟩
instance : UFld Tryz.prog 30 9 9:=⟨_,_,_,_,_,Tryz.underlying30,rfl,Ty.t3,rfl⟩
instance : UFld Tryz.prog 33 0 0:=⟨_,_,_,_,_,Tryz.underlying33,rfl,Ty.t9,rfl⟩
instance : UFld Tryz.prog 33 1 1:=⟨_,_,_,_,_,Tryz.underlying33,rfl,Ty.t31,rfl⟩
instance : UFld Tryz.prog 40 0 0:=⟨_,_,_,_,_,Tryz.underlying40,rfl,Ty.t3,rfl⟩
instance : UFld Tryz.prog 40 1 1:=⟨_,_,_,_,_,Tryz.underlying40,rfl,Ty.t3,rfl⟩
instance : UFld Tryz.prog 40 2 2:=⟨_,_,_,_,_,Tryz.underlying40,rfl,Ty.t3,rfl⟩
instance : UFld Tryz.prog 40 3 3:=⟨_,_,_,_,_,Tryz.underlying40,rfl,Ty.t2,rfl⟩
instance : UFld Tryz.prog 40 4 4:=⟨_,_,_,_,_,Tryz.underlying40,rfl,Ty.t3,rfl⟩
instance : UFld Tryz.prog 40 5 5:=⟨_,_,_,_,_,Tryz.underlying40,rfl,Ty.t22,rfl⟩
instance : UFld Tryz.prog 40 6 6:=⟨_,_,_,_,_,Tryz.underlying40,rfl,Ty.t3,rfl⟩
instance : UFld Tryz.prog 40 7 7:=⟨_,_,_,_,_,Tryz.underlying40,rfl,Ty.t3,rfl⟩
instance : UFld Tryz.prog 40 8 8:=⟨_,_,_,_,_,Tryz.underlying40,rfl,Ty.t38,rfl⟩
instance : UFld Tryz.prog 50 0 0:=⟨_,_,_,_,_,Tryz.underlying50,rfl,Ty.t3,rfl⟩
instance : UFld Tryz.prog 50 1 1:=⟨_,_,_,_,_,Tryz.underlying50,rfl,Ty.t3,rfl⟩
instance : UFld Tryz.prog 50 2 2:=⟨_,_,_,_,_,Tryz.underlying50,rfl,Ty.t22,rfl⟩
instance : UFld Tryz.prog 54 0 0:=⟨_,_,_,_,_,Tryz.underlying54,rfl,Ty.t22,rfl⟩
instance : UFld Tryz.prog 74 0 0:=⟨_,_,_,_,_,Tryz.underlying74,rfl,Ty.t3,rfl⟩
instance : UFld Tryz.prog 74 1 1:=⟨_,_,_,_,_,Tryz.underlying74,rfl,Ty.t22,rfl⟩
instance : UFld Tryz.prog 74 2 2:=⟨_,_,_,_,_,Tryz.underlying74,rfl,Ty.t40,rfl⟩
instance : UFld Tryz.prog 74 3 11:=⟨_,_,_,_,_,Tryz.underlying74,rfl,Ty.t4,rfl⟩
instance : UFld Tryz.prog 78 0 0:=⟨_,_,_,_,_,Tryz.underlying78,rfl,Ty.t3,rfl⟩
instance : UFld Tryz.prog 78 1 1:=⟨_,_,_,_,_,Tryz.underlying78,rfl,Ty.t3,rfl⟩
instance : UFld Tryz.prog 78 2 2:=⟨_,_,_,_,_,Tryz.underlying78,rfl,Ty.t22,rfl⟩
instance : UFld Tryz.prog 85 0 0:=⟨_,_,_,_,_,Tryz.underlying85,rfl,Ty.t59,rfl⟩
instance : UFld Tryz.prog 85 1 1:=⟨_,_,_,_,_,Tryz.underlying85,rfl,Ty.t33,rfl⟩
instance : UFld Tryz.prog 85 2 3:=⟨_,_,_,_,_,Tryz.underlying85,rfl,Ty.t78,rfl⟩
instance : UFld Tryz.prog 85 3 6:=⟨_,_,_,_,_,Tryz.underlying85,rfl,Ty.t83,rfl⟩
instance : UFld Tryz.prog 87 0 0:=⟨_,_,_,_,_,Tryz.underlying87,rfl,Ty.t3,rfl⟩
instance : UFld Tryz.prog 87 1 1:=⟨_,_,_,_,_,Tryz.underlying87,rfl,Ty.t3,rfl⟩
instance : UFld Tryz.prog 87 2 2:=⟨_,_,_,_,_,Tryz.underlying87,rfl,Ty.t3,rfl⟩
instance : UFld Tryz.prog 87 3 3:=⟨_,_,_,_,_,Tryz.underlying87,rfl,Ty.t3,rfl⟩
instance : UFld Tryz.prog 111 0 0:=⟨_,_,_,_,_,Tryz.underlying111,rfl,Ty.t30,rfl⟩
instance : UFld Tryz.prog 111 1 10:=⟨_,_,_,_,_,Tryz.underlying111,rfl,Ty.t93,rfl⟩
instance : UFld Tryz.prog 111 2 11:=⟨_,_,_,_,_,Tryz.underlying111,rfl,Ty.t108,rfl⟩
instance : UFld Tryz.prog 111 3 12:=⟨_,_,_,_,_,Tryz.underlying111,rfl,Ty.t109,rfl⟩
instance : UFld Tryz.prog 111 4 13:=⟨_,_,_,_,_,Tryz.underlying111,rfl,Ty.t67,rfl⟩
instance : UFld Tryz.prog 111 5 14:=⟨_,_,_,_,_,Tryz.underlying111,rfl,Ty.t3,rfl⟩
instance : UFld Tryz.prog 111 6 15:=⟨_,_,_,_,_,Tryz.underlying111,rfl,Ty.t4,rfl⟩
instance : UFld Tryz.prog 115 0 0:=⟨_,_,_,_,_,Tryz.underlying115,rfl,Ty.t112,rfl⟩
instance : UFld Tryz.prog 115 1 1:=⟨_,_,_,_,_,Tryz.underlying115,rfl,Ty.t33,rfl⟩
instance : UFld Tryz.prog 115 2 3:=⟨_,_,_,_,_,Tryz.underlying115,rfl,Ty.t50,rfl⟩
instance : UFld Tryz.prog 115 3 6:=⟨_,_,_,_,_,Tryz.underlying115,rfl,Ty.t46,rfl⟩
instance : UFld Tryz.prog 127 0 0:=⟨_,_,_,_,_,Tryz.underlying127,rfl,Ty.t30,rfl⟩
instance : UFld Tryz.prog 127 1 10:=⟨_,_,_,_,_,Tryz.underlying127,rfl,Ty.t55,rfl⟩
instance : UFld Tryz.prog 127 2 11:=⟨_,_,_,_,_,Tryz.underlying127,rfl,Ty.t3,rfl⟩
instance : UFld Tryz.prog 127 3 12:=⟨_,_,_,_,_,Tryz.underlying127,rfl,Ty.t63,rfl⟩
instance : UFld Tryz.prog 127 4 13:=⟨_,_,_,_,_,Tryz.underlying127,rfl,Ty.t63,rfl⟩
instance : UFld Tryz.prog 127 5 14:=⟨_,_,_,_,_,Tryz.underlying127,rfl,Ty.t123,rfl⟩
instance : UFld Tryz.prog 127 6 15:=⟨_,_,_,_,_,Tryz.underlying127,rfl,Ty.t124,rfl⟩
instance : UFld Tryz.prog 127 7 16:=⟨_,_,_,_,_,Tryz.underlying127,rfl,Ty.t109,rfl⟩
instance : UFld Tryz.prog 127 8 17:=⟨_,_,_,_,_,Tryz.underlying127,rfl,Ty.t125,rfl⟩
instance : UFld Tryz.prog 127 9 18:=⟨_,_,_,_,_,Tryz.underlying127,rfl,Ty.t4,rfl⟩
instance : UFld Tryz.prog 133 0 0:=⟨_,_,_,_,_,Tryz.underlying133,rfl,Ty.t3,rfl⟩
instance : UFld Tryz.prog 133 1 1:=⟨_,_,_,_,_,Tryz.underlying133,rfl,Ty.t3,rfl⟩
instance : UFld Tryz.prog 133 2 2:=⟨_,_,_,_,_,Tryz.underlying133,rfl,Ty.t3,rfl⟩
instance : UFld Tryz.prog 133 3 3:=⟨_,_,_,_,_,Tryz.underlying133,rfl,Ty.t38,rfl⟩
instance : UFld Tryz.prog 133 4 4:=⟨_,_,_,_,_,Tryz.underlying133,rfl,Ty.t4,rfl⟩
instance : UFld Tryz.prog 144 0 0:=⟨_,_,_,_,_,Tryz.underlying144,rfl,Ty.t3,rfl⟩
instance : UFld Tryz.prog 144 1 1:=⟨_,_,_,_,_,Tryz.underlying144,rfl,Ty.t3,rfl⟩
instance : UFld Tryz.prog 144 2 2:=⟨_,_,_,_,_,Tryz.underlying144,rfl,Ty.t3,rfl⟩
instance : UFld Tryz.prog 153 0 0:=⟨_,_,_,_,_,Tryz.underlying153,rfl,Ty.t151,rfl⟩
instance : UFld Tryz.prog 169 0 0:=⟨_,_,_,_,_,Tryz.underlying169,rfl,Ty.t22,rfl⟩
instance : UFld Tryz.prog 172 0 0:=⟨_,_,_,_,_,Tryz.underlying172,rfl,Ty.t3,rfl⟩
instance : UFld Tryz.prog 172 1 1:=⟨_,_,_,_,_,Tryz.underlying172,rfl,Ty.t3,rfl⟩
instance : UFld Tryz.prog 172 2 2:=⟨_,_,_,_,_,Tryz.underlying172,rfl,Ty.t22,rfl⟩
instance : UFld Tryz.prog 176 0 0:=⟨_,_,_,_,_,Tryz.underlying176,rfl,Ty.t3,rfl⟩
instance : UFld Tryz.prog 176 1 1:=⟨_,_,_,_,_,Tryz.underlying176,rfl,Ty.t3,rfl⟩
instance : UFld Tryz.prog 176 2 2:=⟨_,_,_,_,_,Tryz.underlying176,rfl,Ty.t22,rfl⟩
instance : UFld Tryz.prog 184 0 0:=⟨_,_,_,_,_,Tryz.underlying184,rfl,Ty.t182,rfl⟩
instance : UFld Tryz.prog 190 0 0:=⟨_,_,_,_,_,Tryz.underlying190,rfl,Ty.t83,rfl⟩
instance : UFld Tryz.prog 194 0 0:=⟨_,_,_,_,_,Tryz.underlying194,rfl,Ty.t22,rfl⟩
instance : UFld Tryz.prog 194 1 1:=⟨_,_,_,_,_,Tryz.underlying194,rfl,Ty.t4,rfl⟩
instance : UFld Tryz.prog 210 0 0:=⟨_,_,_,_,_,Tryz.underlying210,rfl,Ty.t3,rfl⟩
instance : UFld Tryz.prog 210 1 1:=⟨_,_,_,_,_,Tryz.underlying210,rfl,Ty.t38,rfl⟩
instance : UFld Tryz.prog 212 0 0:=⟨_,_,_,_,_,Tryz.underlying212,rfl,Ty.t3,rfl⟩
instance : UFld Tryz.prog 213 0 0:=⟨_,_,_,_,_,Tryz.underlying213,rfl,Ty.t3,rfl⟩
instance : UFld Tryz.prog 215 0 0:=⟨_,_,_,_,_,Tryz.underlying215,rfl,Ty.t3,rfl⟩
instance : UFld Tryz.prog 215 1 1:=⟨_,_,_,_,_,Tryz.underlying215,rfl,Ty.t3,rfl⟩
instance : UFld Tryz.prog 224 0 0:=⟨_,_,_,_,_,Tryz.underlying224,rfl,Ty.t33,rfl⟩
instance : UFld Tryz.prog 224 1 2:=⟨_,_,_,_,_,Tryz.underlying224,rfl,Ty.t221,rfl⟩
instance : UFld Tryz.prog 224 2 3:=⟨_,_,_,_,_,Tryz.underlying224,rfl,Ty.t3,rfl⟩
instance : UFld Tryz.prog 224 3 4:=⟨_,_,_,_,_,Tryz.underlying224,rfl,Ty.t22,rfl⟩
instance : UFld Tryz.prog 224 4 5:=⟨_,_,_,_,_,Tryz.underlying224,rfl,Ty.t3,rfl⟩
theorem Ty.mixed : Tryz.prog.follows .mixedOrders=true:=by kernel_rfl
end Go.Proofs.YtagpkhbkdbaigaaGreat
