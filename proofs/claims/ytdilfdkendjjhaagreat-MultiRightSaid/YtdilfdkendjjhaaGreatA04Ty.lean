/- The program's types and functions, as far as the steps ask for them. -/
import Derived.Test.YtdilfdkendjjhaaGreatA03Run
import Derived.Test.YtdilfdkendjjhaaGreatProg
import Derived.KernelRfl
import Derived.Test.YtdilfdkendjjhaaGreatA02More2
namespace Go.Proofs.YtdilfdkendjjhaaGreat
open Go.RowKit
set_option linter.unusedVariables false
set_option linter.unusedSimpArgs false
set_option maxRecDepth 10000
set_option synthInstance.maxSize 4000
set_option synthInstance.maxHeartbeats 400000
section
instance Ty.t2:TI Tryz.prog 2 (.int .i64 0) 1 8:=TI.of (by kernel_rfl)
instance Ty.t3:TI Tryz.prog 3 (.int .i64 0) 1 8:=TI.of (by kernel_rfl)
instance Ty.t4:TI Tryz.prog 4 (.bool false) 1 1:=TI.of (by kernel_rfl)
instance Ty.t5:TI Tryz.prog 5 (.int .u8 0) 1 1:=TI.of (by kernel_rfl)
instance Ty.t9:TI Tryz.prog 9 (.string ⟨#[]⟩) 1 16:=TI.of (by kernel_rfl)
instance Ty.t21:TI Tryz.prog 21 (.int .i32 0) 1 4:=TI.of (by kernel_rfl)
instance Ty.t22:TI Tryz.prog 22 (.slice none 0 0) 1 24:=TI.of (by kernel_rfl)
instance Ty.t27:TI Tryz.prog 27 (.agg #[.int .i64 0,.int .i64 0,.int .i64 0,.int .i64 0,.int .i64 0,.int .i64 0,.int .i64 0,.int .i64 0,.int .i64 0,.int .i64 0]) 10 80:=TI.of (by kernel_rfl)
instance Ty.t32:TI Tryz.prog 32 (.slice none 0 0) 1 24:=TI.of (by kernel_rfl)
instance Ty.t34:TI Tryz.prog 34 (.agg #[.string ⟨#[]⟩,.slice none 0 0]) 2 40:=TI.of (by kernel_rfl)
instance Ty.t38:TI Tryz.prog 38 (.slice none 0 0) 1 24:=TI.of (by kernel_rfl)
instance Ty.t39:TI Tryz.prog 39 (.pointer none) 1 8:=TI.of (by kernel_rfl)
instance Ty.t42:TI Tryz.prog 42 (.slice none 0 0) 1 24:=TI.of (by kernel_rfl)
instance Ty.t43:TI Tryz.prog 43 (.int .i64 0) 1 8:=TI.of (by kernel_rfl)
instance Ty.t45:TI Tryz.prog 45 (.agg #[.int .i64 0,.int .i64 0,.slice none 0 0,.int .i64 0,.int .i64 0]) 5 56:=TI.of (by kernel_rfl)
instance Ty.t52:TI Tryz.prog 52 (.slice none 0 0) 1 24:=TI.of (by kernel_rfl)
instance Ty.t59:TI Tryz.prog 59 (.pointer none) 1 8:=TI.of (by kernel_rfl)
instance Ty.t61:TI Tryz.prog 61 (.agg #[.int .i64 0,.int .i64 0,.slice none 0 0]) 3 40:=TI.of (by kernel_rfl)
instance Ty.t63:TI Tryz.prog 63 (.agg #[.int .i32 0,.int .i32 0,.int .i32 0,.int .i32 0,.int .i32 0,.int .i32 0,.int .i32 0,.int .i32 0,.int .i32 0,.int .i32 0,.int .i32 0,.int .i32 0,.int .i32 0,.int .i32 0,.int .i32 0,.int .i32 0,.int .i32 0,.int .i32 0,.int .i32 0,.int .i32 0,.int .i32 0,.int .i32 0,.int .i32 0,.int .i32 0,.int .i32 0,.int .i32 0,.int .i32 0,.int .i32 0,.int .i32 0,.int .i32 0,.int .i32 0,.int .i32 0]) 32 128:=TI.of (by kernel_rfl)
instance Ty.t65:TI Tryz.prog 65 (.agg ((.pointer none::.string ⟨#[]⟩::.slice none 0 0::.int .i64 0::.int .i64 0::.slice none 0 0::.int .i32 0::.int .i32 0::.int .i32 0::.int .i32 0::.int .i32 0::.int .i32 0::.int .i32 0::.int .i32 0::.int .i32 0::.int .i32 0::.int .i32 0::.int .i32 0::.int .i32 0::.int .i32 0::.int .i32 0::.int .i32 0::.int .i32 0::.int .i32 0::.int .i32 0::.int .i32 0::.int .i32 0::.int .i32 0::.int .i32 0::.int .i32 0::.int .i32 0::.int .i32 0::.int .i32 0::.int .i32 0::.int .i32 0::.int .i32 0::.int .i32 0::.int .i32 0::[]):List Value).toArray) 38 216:=TI.of (by kernel_rfl)
instance Ty.t68:TI Tryz.prog 68 (.int .u32 0) 1 4:=TI.of (by kernel_rfl)
instance Ty.t70:TI Tryz.prog 70 (.agg #[.int .i64 0,.int .i64 0,.int .i64 0,.int .i64 0,.int .i64 0,.slice none 0 0,.int .i64 0,.int .i64 0,.int .u32 0]) 9 88:=TI.of (by kernel_rfl)
instance Ty.t77:TI Tryz.prog 77 (.slice none 0 0) 1 24:=TI.of (by kernel_rfl)
instance Ty.t78:TI Tryz.prog 78 (.slice none 0 0) 1 24:=TI.of (by kernel_rfl)
instance Ty.t79:TI Tryz.prog 79 (.slice none 0 0) 1 24:=TI.of (by kernel_rfl)
instance Ty.t80:TI Tryz.prog 80 (.slice none 0 0) 1 24:=TI.of (by kernel_rfl)
instance Ty.t81:TI Tryz.prog 81 (.slice none 0 0) 1 24:=TI.of (by kernel_rfl)
instance Ty.t83:TI Tryz.prog 83 (.agg #[.int .i64 0,.int .i64 0,.int .i64 0,.int .i64 0,.int .i64 0,.int .i64 0,.int .i64 0,.int .i64 0,.int .i64 0,.int .i64 0,.slice none 0 0,.int .i64 0,.slice none 0 0,.slice none 0 0,.slice none 0 0,.slice none 0 0,.slice none 0 0,.slice none 0 0,.bool false]) 19 264:=TI.of (by kernel_rfl)
instance Ty.t87:TI Tryz.prog 87 (.slice none 0 0) 1 24:=TI.of (by kernel_rfl)
instance Ty.t89:TI Tryz.prog 89 (.pointer none) 1 8:=TI.of (by kernel_rfl)
instance Ty.t91:TI Tryz.prog 91 (.pointer none) 1 8:=TI.of (by kernel_rfl)
instance Ty.t102:TI Tryz.prog 102 (.pointer none) 1 8:=TI.of (by kernel_rfl)
instance Ty.t106:TI Tryz.prog 106 (.pointer none) 1 8:=TI.of (by kernel_rfl)
instance Ty.t108:TI Tryz.prog 108 (.slice none 0 0) 1 24:=TI.of (by kernel_rfl)
instance Ty.t110:TI Tryz.prog 110 (.agg #[.pointer none,.string ⟨#[]⟩,.slice none 0 0,.pointer none,.pointer none,.pointer none,.slice none 0 0,.int .i64 0,.int .i64 0]) 9 112:=TI.of (by kernel_rfl)
instance Ty.t112:TI Tryz.prog 112 (.pointer none) 1 8:=TI.of (by kernel_rfl)
instance Ty.t116:TI Tryz.prog 116 (.agg #[.int .i32 0,.int .i32 0,.int .i32 0,.int .i32 0,.int .i32 0,.int .i32 0,.int .i32 0,.int .i32 0,.int .i32 0,.int .i32 0,.int .i32 0,.int .i32 0,.int .i32 0,.int .i32 0,.int .i32 0,.int .i32 0,.int .i32 0,.int .i32 0,.int .i32 0,.int .i32 0,.int .i32 0,.int .i32 0,.int .i32 0,.int .i32 0,.int .i32 0,.int .i32 0,.int .i32 0,.int .i32 0,.int .i32 0,.int .i32 0,.int .i32 0,.int .i32 0]) 32 128:=TI.of (by kernel_rfl)
instance Ty.t119:TI Tryz.prog 119 (.agg #[.int .i64 0,.int .i64 0,.int .i64 0,.int .i64 0]) 4 32:=TI.of (by kernel_rfl)
instance Ty.t122:TI Tryz.prog 122 (.agg #[.pointer none,.int .i64 0,.slice none 0 0,.int .i64 0,.int .i64 0]) 5 56:=TI.of (by kernel_rfl)
instance Ty.t128:TI Tryz.prog 128 (.agg #[.slice none 0 0]) 1 24:=TI.of (by kernel_rfl)
instance Ty.t132:TI Tryz.prog 132 (.pointer none) 1 8:=TI.of (by kernel_rfl)
instance Ty.t134:TI Tryz.prog 134 (.agg (List.replicate 201 (.int .i64 0)).toArray) 201 1608:=TI.of (by kernel_rfl)
instance Ty.t139:TI Tryz.prog 139 (.agg #[.int .i64 0,.int .i64 0,.slice none 0 0]) 3 40:=TI.of (by kernel_rfl)
instance Ty.t147:TI Tryz.prog 147 (.pointer none) 1 8:=TI.of (by kernel_rfl)
instance Ty.t150:TI Tryz.prog 150 (.agg #[.int .i64 0,.int .i64 0,.slice none 0 0]) 3 40:=TI.of (by kernel_rfl)
instance Ty.t171:TI Tryz.prog 171 (.map none) 1 8:=TI.of (by kernel_rfl)
instance Ty.t172:TI Tryz.prog 172 (.pointer none) 1 8:=TI.of (by kernel_rfl)
instance Ty.t174:TI Tryz.prog 174 (.agg #[.pointer none,.map none,.int .i64 0]) 3 24:=TI.of (by kernel_rfl)
instance Ty.t180:TI Tryz.prog 180 (.agg ((.pointer none::.string ⟨#[]⟩::.slice none 0 0::.int .i64 0::.int .i64 0::.slice none 0 0::.int .i32 0::.int .i32 0::.int .i32 0::.int .i32 0::.int .i32 0::.int .i32 0::.int .i32 0::.int .i32 0::.int .i32 0::.int .i32 0::.int .i32 0::.int .i32 0::.int .i32 0::.int .i32 0::.int .i32 0::.int .i32 0::.int .i32 0::.int .i32 0::.int .i32 0::.int .i32 0::.int .i32 0::.int .i32 0::.int .i32 0::.int .i32 0::.int .i32 0::.int .i32 0::.int .i32 0::.int .i32 0::.int .i32 0::.int .i32 0::.int .i32 0::.int .i32 0::[]):List Value).toArray) 38 216:=TI.of (by kernel_rfl)
instance Ty.t182:TI Tryz.prog 182 (.slice none 0 0) 1 24:=TI.of (by kernel_rfl)
instance Ty.t184:TI Tryz.prog 184 (.agg #[.slice none 0 0]) 1 24:=TI.of (by kernel_rfl)
instance Ty.t186:TI Tryz.prog 186 (.agg #[.int .i64 0,.int .i64 0]) 2 16:=TI.of (by kernel_rfl)
instance Ty.t188:TI Tryz.prog 188 (.agg #[.string ⟨#[]⟩,.slice none 0 0,.pointer none,.pointer none,.pointer none,.bool false,.int .i64 0,.int .i64 0,.int .i64 0,.int .i64 0,.bool false]) 11 112:=TI.of (by kernel_rfl)
instance Ty.t189:TI Tryz.prog 189 (.agg #[.int .i64 0,.int .i64 0,.int .i64 0,.int .i64 0]) 4 32:=TI.of (by kernel_rfl)
instance Ty.t191:TI Tryz.prog 191 (.agg #[.int .i64 0,.int .i64 0,.int .i64 0,.int .i64 0,.int .i64 0]) 5 40:=TI.of (by kernel_rfl)
instance Ty.t194:TI Tryz.prog 194 (.agg #[.int .i32 0,.int .i32 0,.int .i32 0,.int .i32 0,.int .i32 0,.int .i32 0,.int .i32 0,.int .i32 0]) 8 32:=TI.of (by kernel_rfl)
instance Ty.t214:TI Tryz.prog 214 (.slice none 0 0) 1 24:=TI.of (by kernel_rfl)
instance Ty.t216:TI Tryz.prog 216 (.agg #[.slice none 0 0]) 1 24:=TI.of (by kernel_rfl)
instance Ty.t218:TI Tryz.prog 218 (.agg #[.int .i32 0,.int .i32 0,.int .i32 0,.int .i32 0,.int .i32 0,.int .i32 0,.int .i32 0,.int .i32 0,.int .i64 0]) 9 40:=TI.of (by kernel_rfl)
instance Ty.t223:TI Tryz.prog 223 (.agg #[.int .i64 0,.int .i64 0,.int .i64 0]) 3 24:=TI.of (by kernel_rfl)
instance Ty.t226:TI Tryz.prog 226 (.pointer none) 1 8:=TI.of (by kernel_rfl)
instance Ty.t229:TI Tryz.prog 229 (.slice none 0 0) 1 24:=TI.of (by kernel_rfl)
instance Ty.t231:TI Tryz.prog 231 (.agg #[.int .i64 0,.int .i64 0,.int .i64 0,.int .i64 0,.int .i64 0,.int .i64 0,.int .i64 0,.int .i64 0,.int .i64 0,.int .i64 0,.pointer none,.slice none 0 0,.slice none 0 0,.slice none 0 0,.int .i64 0,.bool false]) 16 176:=TI.of (by kernel_rfl)
instance Ty.t232:TI Tryz.prog 232 (.slice none 0 0) 1 24:=TI.of (by kernel_rfl)
instance Ty.t234:TI Tryz.prog 234 (.agg #[.slice none 0 0]) 1 24:=TI.of (by kernel_rfl)
instance Ty.t244:TI Tryz.prog 244 (.agg #[.int .i64 0,.int .u32 0]) 2 16:=TI.of (by kernel_rfl)
instance Ty.t245:TI Tryz.prog 245 (.agg (List.replicate 256 (.int .i64 0)).toArray) 256 2048:=TI.of (by kernel_rfl)
instance Ty.t247:TI Tryz.prog 247 (.agg (List.replicate 256 (.bool false)).toArray) 256 256:=TI.of (by kernel_rfl)
instance Ty.t256:TI Tryz.prog 256 (.agg #[.nilIface]) 1 16:=TI.of (by kernel_rfl)
instance Ty.t261:TI Tryz.prog 261 (.agg #[.int .i64 0,.int .i64 0,.int .i64 0,.int .u32 0,.bool false]) 5 32:=TI.of (by kernel_rfl)
instance Ty.t278:TI Tryz.prog 278 (.agg #[.pointer none,.int .i64 0,.bool false]) 3 24:=TI.of (by kernel_rfl)
instance Ty.t296:TI Tryz.prog 296 (.agg #[.slice none 0 0]) 1 24:=TI.of (by kernel_rfl)
instance Ty.t302:TI Tryz.prog 302 (.agg ((.int .i32 0::.int .i32 0::.int .i32 0::.int .i32 0::.int .i32 0::.int .i32 0::.int .i32 0::.int .i32 0::.int .i32 0::.int .i32 0::.int .i32 0::.int .i32 0::.int .i32 0::.int .i32 0::.int .i32 0::.int .i32 0::.int .i32 0::.int .i32 0::.int .i32 0::.int .i32 0::.int .i32 0::.int .i32 0::.int .i32 0::.int .i32 0::.int .i32 0::.int .i32 0::.int .i32 0::.int .i32 0::.int .i32 0::.int .i32 0::.int .i32 0::.int .i32 0::[]):List Value).toArray) 32 128:=TI.of (by kernel_rfl)
instance Ty.t303:TI Tryz.prog 303 (.agg #[.int .i64 0,.int .i64 0,.int .i64 0,.int .i64 0]) 4 32:=TI.of (by kernel_rfl)
instance Ty.t310:TI Tryz.prog 310 (.agg #[.int .i64 0]) 1 8:=TI.of (by kernel_rfl)
instance Ty.t311:TI Tryz.prog 311 (.agg #[.int .i64 0]) 1 8:=TI.of (by kernel_rfl)
instance Ty.t313:TI Tryz.prog 313 (.agg #[.int .i64 0,.int .i64 0]) 2 16:=TI.of (by kernel_rfl)
instance Ty.t322:TI Tryz.prog 322 (.nilIface) 1 16:=TI.of (by kernel_rfl)
instance Ty.t325:TI Tryz.prog 325 (.agg #[.string ⟨#[]⟩,.slice none 0 0,.nilIface,.int .i64 0,.slice none 0 0,.int .i64 0]) 6 96:=TI.of (by kernel_rfl)
instance Ty.t334:TI Tryz.prog 334 (.agg #[.slice none 0 0,.bool false]) 2 32:=TI.of (by kernel_rfl)
instance Ty.t339:TI Tryz.prog 339 (.agg #[.int .u8 0,.int .u8 0]) 2 2:=TI.of (by kernel_rfl)
instance Ty.t359:TI Tryz.prog 359 (.agg #[.int .i64 0,.int .i64 0,.int .i64 0]) 3 24:=TI.of (by kernel_rfl)
instance Ty.b27:BuildT Tryz.prog 27 [(0,1),(1,1),(2,1),(3,1),(4,1),(5,1),(6,1),(7,1),(8,1),(9,1)]:=⟨_,Tryz.underlying27,λw=>by kernel_rfl⟩
instance Ty.b34:BuildT Tryz.prog 34 [(0,1),(1,1)]:=⟨_,Tryz.underlying34,λw=>by kernel_rfl⟩
instance Ty.b45:BuildT Tryz.prog 45 [(0,1),(1,1),(2,1),(3,1),(4,1)]:=⟨_,Tryz.underlying45,λw=>by kernel_rfl⟩
instance Ty.b61:BuildT Tryz.prog 61 [(0,1),(1,1),(2,1)]:=⟨_,Tryz.underlying61,λw=>by kernel_rfl⟩
instance Ty.b65:BuildT Tryz.prog 65 [(0,1),(1,2),(3,3),(6,32)]:=⟨_,Tryz.underlying65,λw=>by kernel_rfl⟩
instance Ty.b70:BuildT Tryz.prog 70 [(0,1),(1,1),(2,1),(3,1),(4,1),(5,1),(6,1),(7,1),(8,1)]:=⟨_,Tryz.underlying70,λw=>by kernel_rfl⟩
instance Ty.b83:BuildT Tryz.prog 83 [(0,10),(10,1),(11,1),(12,1),(13,1),(14,1),(15,1),(16,1),(17,1),(18,1)]:=⟨_,Tryz.underlying83,λw=>by kernel_rfl⟩
instance Ty.b110:BuildT Tryz.prog 110 [(0,1),(1,2),(3,1),(4,1),(5,1),(6,1),(7,1),(8,1)]:=⟨_,Tryz.underlying110,λw=>by kernel_rfl⟩
instance Ty.b119:BuildT Tryz.prog 119 [(0,1),(1,1),(2,1),(3,1)]:=⟨_,Tryz.underlying119,λw=>by kernel_rfl⟩
instance Ty.b122:BuildT Tryz.prog 122 [(0,1),(1,1),(2,1),(3,1),(4,1)]:=⟨_,Tryz.underlying122,λw=>by kernel_rfl⟩
instance Ty.b128:BuildT Tryz.prog 128 [(0,1)]:=⟨_,Tryz.underlying128,λw=>by kernel_rfl⟩
instance Ty.b139:BuildT Tryz.prog 139 [(0,1),(1,1),(2,1)]:=⟨_,Tryz.underlying139,λw=>by kernel_rfl⟩
instance Ty.b150:BuildT Tryz.prog 150 [(0,1),(1,1),(2,1)]:=⟨_,Tryz.underlying150,λw=>by kernel_rfl⟩
instance Ty.b174:BuildT Tryz.prog 174 [(0,1),(1,1),(2,1)]:=⟨_,Tryz.underlying174,λw=>by kernel_rfl⟩
instance Ty.b180:BuildT Tryz.prog 180 [(0,1),(1,2),(3,3),(6,32)]:=⟨_,Tryz.underlying180,λw=>by kernel_rfl⟩
instance Ty.b184:BuildT Tryz.prog 184 [(0,1)]:=⟨_,Tryz.underlying184,λw=>by kernel_rfl⟩
instance Ty.b186:BuildT Tryz.prog 186 [(0,1),(1,1)]:=⟨_,Tryz.underlying186,λw=>by kernel_rfl⟩
instance Ty.b188:BuildT Tryz.prog 188 [(0,2),(2,1),(3,1),(4,1),(5,1),(6,2),(8,1),(9,1),(10,1)]:=⟨_,Tryz.underlying188,λw=>by kernel_rfl⟩
instance Ty.b216:BuildT Tryz.prog 216 [(0,1)]:=⟨_,Tryz.underlying216,λw=>by kernel_rfl⟩
instance Ty.b218:BuildT Tryz.prog 218 [(0,8),(8,1)]:=⟨_,Tryz.underlying218,λw=>by kernel_rfl⟩
instance Ty.b223:BuildT Tryz.prog 223 [(0,1),(1,1),(2,1)]:=⟨_,Tryz.underlying223,λw=>by kernel_rfl⟩
instance Ty.b231:BuildT Tryz.prog 231 [(0,10),(10,1),(11,1),(12,1),(13,1),(14,1),(15,1)]:=⟨_,Tryz.underlying231,λw=>by kernel_rfl⟩
instance Ty.b234:BuildT Tryz.prog 234 [(0,1)]:=⟨_,Tryz.underlying234,λw=>by kernel_rfl⟩
instance Ty.b244:BuildT Tryz.prog 244 [(0,1),(1,1)]:=⟨_,Tryz.underlying244,λw=>by kernel_rfl⟩
instance Ty.b256:BuildT Tryz.prog 256 [(0,1)]:=⟨_,Tryz.underlying256,λw=>by kernel_rfl⟩
instance Ty.b261:BuildT Tryz.prog 261 [(0,1),(1,1),(2,1),(3,1),(4,1)]:=⟨_,Tryz.underlying261,λw=>by kernel_rfl⟩
instance Ty.b278:BuildT Tryz.prog 278 [(0,1),(1,1),(2,1)]:=⟨_,Tryz.underlying278,λw=>by kernel_rfl⟩
instance Ty.b296:BuildT Tryz.prog 296 [(0,1)]:=⟨_,Tryz.underlying296,λw=>by kernel_rfl⟩
instance Ty.b302:BuildT Tryz.prog 302 [(0,32)]:=⟨_,Tryz.underlying302,λw=>by kernel_rfl⟩
instance Ty.b310:BuildT Tryz.prog 310 [(0,1)]:=⟨_,Tryz.underlying310,λw=>by kernel_rfl⟩
instance Ty.b311:BuildT Tryz.prog 311 [(0,1)]:=⟨_,Tryz.underlying311,λw=>by kernel_rfl⟩
instance Ty.b313:BuildT Tryz.prog 313 [(0,1),(1,1)]:=⟨_,Tryz.underlying313,λw=>by kernel_rfl⟩
instance Ty.b325:BuildT Tryz.prog 325 [(0,2),(2,1),(3,1),(4,1),(5,1)]:=⟨_,Tryz.underlying325,λw=>by kernel_rfl⟩
instance Ty.b334:BuildT Tryz.prog 334 [(0,1),(1,1)]:=⟨_,Tryz.underlying334,λw=>by kernel_rfl⟩
abbrev U2:=Und.of Tryz.underlying2
abbrev U3:=Und.of Tryz.underlying3
abbrev U4:=Und.of Tryz.underlying4
abbrev U5:=Und.of Tryz.underlying5
abbrev U9:=Und.of Tryz.underlying9
abbrev U21:=Und.of Tryz.underlying21
abbrev U22:=Und.of Tryz.underlying22
abbrev U27:=Und.of Tryz.underlying27
abbrev U28:=Und.of Tryz.underlying28
abbrev U29:=Und.of Tryz.underlying29
abbrev U32:=Und.of Tryz.underlying32
abbrev U34:=Und.of Tryz.underlying34
abbrev U38:=Und.of Tryz.underlying38
abbrev U39:=Und.of Tryz.underlying39
abbrev U42:=Und.of Tryz.underlying42
abbrev U43:=Und.of Tryz.underlying43
abbrev U45:=Und.of Tryz.underlying45
abbrev U52:=Und.of Tryz.underlying52
abbrev U54:=Und.of Tryz.underlying54
abbrev U56:=Und.of Tryz.underlying56
abbrev U59:=Und.of Tryz.underlying59
abbrev U61:=Und.of Tryz.underlying61
abbrev U63:=Und.of Tryz.underlying63
abbrev U65:=Und.of Tryz.underlying65
abbrev U68:=Und.of Tryz.underlying68
abbrev U70:=Und.of Tryz.underlying70
abbrev U77:=Und.of Tryz.underlying77
abbrev U78:=Und.of Tryz.underlying78
abbrev U79:=Und.of Tryz.underlying79
abbrev U80:=Und.of Tryz.underlying80
abbrev U81:=Und.of Tryz.underlying81
abbrev U83:=Und.of Tryz.underlying83
abbrev U87:=Und.of Tryz.underlying87
abbrev U89:=Und.of Tryz.underlying89
abbrev U91:=Und.of Tryz.underlying91
abbrev U93:=Und.of Tryz.underlying93
abbrev U98:=Und.of Tryz.underlying98
abbrev U100:=Und.of Tryz.underlying100
abbrev U102:=Und.of Tryz.underlying102
abbrev U106:=Und.of Tryz.underlying106
abbrev U108:=Und.of Tryz.underlying108
abbrev U110:=Und.of Tryz.underlying110
abbrev U112:=Und.of Tryz.underlying112
abbrev U116:=Und.of Tryz.underlying116
abbrev U119:=Und.of Tryz.underlying119
abbrev U122:=Und.of Tryz.underlying122
abbrev U128:=Und.of Tryz.underlying128
abbrev U132:=Und.of Tryz.underlying132
abbrev U134:=Und.of Tryz.underlying134
abbrev U138:=Und.of Tryz.underlying138
abbrev U139:=Und.of Tryz.underlying139
abbrev U147:=Und.of Tryz.underlying147
abbrev U150:=Und.of Tryz.underlying150
abbrev U171:=Und.of Tryz.underlying171
abbrev U172:=Und.of Tryz.underlying172
abbrev U174:=Und.of Tryz.underlying174
abbrev U180:=Und.of Tryz.underlying180
abbrev U182:=Und.of Tryz.underlying182
abbrev U184:=Und.of Tryz.underlying184
abbrev U186:=Und.of Tryz.underlying186
abbrev U188:=Und.of Tryz.underlying188
abbrev U189:=Und.of Tryz.underlying189
abbrev U191:=Und.of Tryz.underlying191
abbrev U194:=Und.of Tryz.underlying194
abbrev U199:=Und.of Tryz.underlying199
abbrev U214:=Und.of Tryz.underlying214
abbrev U216:=Und.of Tryz.underlying216
abbrev U218:=Und.of Tryz.underlying218
abbrev U220:=Und.of Tryz.underlying220
abbrev U223:=Und.of Tryz.underlying223
abbrev U224:=Und.of Tryz.underlying224
abbrev U225:=Und.of Tryz.underlying225
abbrev U226:=Und.of Tryz.underlying226
abbrev U229:=Und.of Tryz.underlying229
abbrev U231:=Und.of Tryz.underlying231
abbrev U232:=Und.of Tryz.underlying232
abbrev U234:=Und.of Tryz.underlying234
abbrev U244:=Und.of Tryz.underlying244
abbrev U245:=Und.of Tryz.underlying245
abbrev U247:=Und.of Tryz.underlying247
abbrev U254:=Und.of Tryz.underlying254
abbrev U256:=Und.of Tryz.underlying256
abbrev U261:=Und.of Tryz.underlying261
abbrev U265:=Und.of Tryz.underlying265
abbrev U276:=Und.of Tryz.underlying276
abbrev U278:=Und.of Tryz.underlying278
abbrev U296:=Und.of Tryz.underlying296
abbrev U300:=Und.of Tryz.underlying300
abbrev U302:=Und.of Tryz.underlying302
abbrev U303:=Und.of Tryz.underlying303
abbrev U310:=Und.of Tryz.underlying310
abbrev U311:=Und.of Tryz.underlying311
abbrev U313:=Und.of Tryz.underlying313
abbrev U322:=Und.of Tryz.underlying322
abbrev U325:=Und.of Tryz.underlying325
abbrev U334:=Und.of Tryz.underlying334
abbrev U339:=Und.of Tryz.underlying339
abbrev U342:=Und.of Tryz.underlying342
abbrev U359:=Und.of Tryz.underlying359
abbrev U361:=Und.of Tryz.underlying361
attribute [instance] U2 U3 U4 U5 U9 U21 U22 U27 U28 U29 U32 U34 U38 U39 U42 U43 U45 U52 U54 U56 U59 U61 U63 U65 U68 U70 U77 U78 U79 U80 U81 U83 U87 U89 U91 U93 U98 U100 U102 U106 U108 U110 U112 U116 U119 U122 U128 U132 U134 U138 U139 U147 U150 U171 U172 U174 U180 U182 U184 U186 U188 U189 U191 U194 U199 U214 U216 U218 U220 U223 U224 U225 U226 U229 U231 U232 U234 U244 U245 U247 U254 U256 U261 U265 U276 U278 U296 U300 U302 U303 U310 U311 U313 U322 U325 U334 U339 U342 U359 U361
theorem Ty.mixed:Tryz.prog.follows .mixedOrders=true:=by kernel_rfl
instance:Mixed Tryz.prog:=⟨Ty.mixed⟩
end
section
theorem St.rdB {W w:World}{L R:List SP}{n c e:Nat}{cs:List Value}(hs:St W w L)(ad:Option Addr)(bs:List UInt8)[k:PickSl L ad n c e 1 cs R](h:cs=bc bs)(hn:bs.length=n):RdB w ad n bs:=by
 subst h
 refine⟨hn,λe=>?_,λx hx hp=>?_⟩
 · rcases Nat.eq_zero_or_pos n with h0 | h0
   · exact h0
   · obtain⟨b,off,e2,_⟩:=hs.slRd ad h0
     rw[e]at e2;cases e2
 · obtain⟨b,off,e2,hr⟩:=hs.slRd ad hp
   exact⟨b,off,by rw[hx]at e2;cases e2;rfl,hr⟩
theorem RdB.nil {w:World}{ad:Option Addr}:RdB w ad 0 []:=⟨rfl,λ_=>rfl,λ_ _ h=>absurd h (by decide)⟩
theorem RdB.old {W w:World}{L:List SP}{ad:Option Addr}{m:Nat}{bs:List UInt8}(h:RdB W ad m bs)(hs:St W w L):RdB w ad m bs:=by
 refine⟨h.1,h.2.1,λx hx h0=>?_⟩
 obtain⟨b,off,rfl,hr⟩:=h.2.2 x hx h0
 refine⟨b,off,rfl,λj v hj=>?_⟩
 have h1:=hr j v hj
 rw[hs.old (a:=⟨b,off+j,none⟩) (World.block_lt_of_cell? _ _ h1)]
 exact h1
theorem cutAd_zero (ad:Option Addr)(c sz:Nat):cutAd ad 0 c sz=ad:=by
 unfold cutAd
 split
 · rfl
 · cases ad with
   | none=>rfl
   | some a=>simp[Addr.add]
def RdBB (w:World)(ad:Option Addr)(m:Nat)(p:List (List UInt8)):Prop :=
 p.length=m∧(0<m→∃ b off,ad=some ⟨b,off,none⟩∧∀ j bs,p[j]?=some bs→∃ ad' c',w.cell? ⟨b,off+j,none⟩=some (.slice ad' bs.length c')∧RdB w ad' bs.length bs)
theorem RdBB.take {w:World}{ad:Option Addr}{m n:Nat}{p:List (List UInt8)}(h:RdBB w ad m p)(hn:n≤m):RdBB w ad n (p.take n):=by
 refine⟨by rw[List.length_take,h.1];omega,λh0=>?_⟩
 obtain⟨b,off,h1,h2⟩:=h.2 (by omega)
 refine⟨b,off,h1,λj bs hj=>?_⟩
 rw[List.getElem?_take]at hj
 by_cases hjn:j<n
 · rw[if_pos hjn]at hj;exact h2 j bs hj
 · rw[if_neg hjn]at hj;cases hj
abbrev BBx:=Option Addr×Nat×List UInt8
def bbv (x:BBx):Value:=.slice x.1 x.2.2.length x.2.1
def bbo (x:BBx):SP:=Sl 5 1 x.1 x.2.2.length x.2.1 (bc x.2.2)
def OwnBB (ad:Option Addr)(n c:Nat)(p:List (List UInt8)):SP:=λh=>∃ xs:List BBx,(xs.map (·.2.2)=p∧p.length=n)∧sepL [Sl 22 1 ad n c (xs.map bbv),All bbo xs] h
section
variable {W w:World}{L L' R:List SP}{ad:Option Addr}{n c:Nat}{p:List (List UInt8)}{xs:List BBx}
theorem OwnBB.open (hs:St W w (OwnBB ad n c p::L)):∃ xs:List BBx,xs.map (·.2.2)=p∧p.length=n∧St W w (Sl 22 1 ad n c (xs.map bbv)::All bbo xs::L):=by
 obtain⟨xs,⟨h1,h2⟩,h3⟩:=hs.exi (ι:=List BBx) (p:=λxs=>xs.map (·.2.2)=p∧p.length=n) (B:=λxs h=>sepL [Sl 22 1 ad n c (xs.map bbv),All bbo xs] h) (λh ⟨xs,h1,h2⟩=>⟨xs,h1,h2⟩)
 exact⟨xs,h1,h2,h3.open λ_ h=>h⟩
theorem OwnBB.close (hs:St W w L)[k:Arr L (Sl 22 1 ad n c (xs.map bbv)::All bbo xs::L') R](h1:xs.map (·.2.2)=p)(h2:p.length=n):St W w (OwnBB ad n c p::L') :=
 St.shut (M:=[_,_]) (hs.sub (M:=Sl 22 1 ad n c (xs.map bbv)::All bbo xs::L')) (λ_ x=>⟨xs,⟨h1,h2⟩,x⟩)
theorem OwnBB.le (hs:St W w (OwnBB ad n c p::L)):p.length=n∧n≤c:=by
 obtain⟨xs,h1,h2,h3⟩:=OwnBB.open hs
 exact⟨h2,(h3.sl ad).2⟩
theorem OwnBB.nil (hs:St W w L):St W w (OwnBB none 0 0 []::L):=by
 have h:St W w (Sl 22 1 none 0 0 (([]:List BBx).map bbv)::All bbo []::L):=(hs.allNil (f:=bbo)).sl0 22 1 none
 exact OwnBB.close (xs:=[]) h rfl rfl
theorem OwnBB.rd (hs:St W w (OwnBB ad n c p::L)):RdBB w ad n p:=by
 obtain⟨xs,h1,h2,h3⟩:=OwnBB.open hs
 refine⟨h2,λh0=>?_⟩
 obtain⟨b,off,rfl,hr⟩:=h3.slRd ad h0
 refine⟨b,off,rfl,λj bs hj=>?_⟩
 rw[← h1,List.getElem?_map]at hj
 obtain⟨x,hx,rfl⟩:=Option.map_eq_some_iff.1 hj
 obtain⟨hxl,hxe⟩:=List.getElem?_eq_some_iff.1 hx
 refine⟨x.1,x.2.1,hr j _ (by rw[List.getElem?_map,hx];rfl),?_⟩
 have h4:=(h3.perm (List.Perm.swap _ _ _)).allOut hxl
 rw[hxe]at h4
 have h5:St W w (Sl 5 1 x.1 x.2.2.length x.2.1 (bc x.2.2)::_):=h4
 exact h5.rdB x.1 x.2.2 rfl rfl
theorem bytes_clone {bs:List UInt8}{m:Nat}(hs:St W w L)(hr:∀ w',St W w' L→RdB w' ad m bs)(hb:m≤1099511627776) :
   Calls Tryz.prog 109 #[.slice ad m c] w λe w'=>∃ ad' c',e=.returned (.slice ad' m c')∧St W w' (Sl 5 1 ad' m c' (bc bs)::L):=by
 obtain⟨h1,h2,h3⟩:=hr _ hs
 cases ad with
 | none =>
   obtain rfl:=h2 rfl
   obtain rfl:bs=[]:=List.eq_nil_of_length_eq_zero h1
   refine EN Tryz.func109 Tryz.ntmps109 rfl rfl λa ha=>?_
   refine RN 6 ha hs λa ha=>?_
   replace ha:=ha.isT 4
   refine RT 3 ha hs ?_
   exact⟨_,_,rfl,hs.sl0 _ _ _⟩
 | some a =>
   rcases Nat.eq_zero_or_pos m with h0 | h0
   · subst h0
     obtain rfl:bs=[]:=List.eq_nil_of_length_eq_zero h1
     refine EN Tryz.func109 Tryz.ntmps109 rfl rfl λa ha=>?_
     refine RN 6 ha hs λa ha=>?_
     replace ha:=ha.isF 4
     refine RN 2 ha hs λa ha=>?_
     refine st_buildSlice0 ha rfl hs Tryz.underlying22 Ty.t5 rfl λb5 a w ha hs ho=>?_
     clear ho
     refine RN 1 ha hs λa ha=>?_
     refine st_append0 ha rfl Tryz.underlying22 Ty.t5 rfl (Nat.le_refl _) λa ha=>?_
     refine RT 1 ha hs ?_
     exact⟨_,_,rfl,hs⟩
   · obtain⟨b,off,rfl,_⟩:=h3 a rfl h0
     refine EN Tryz.func109 Tryz.ntmps109 rfl rfl λa ha=>?_
     refine RN 6 ha hs λa ha=>?_
     replace ha:=ha.isF 4
     refine RN 2 ha hs λa ha=>?_
     refine st_buildSlice0 ha rfl hs Tryz.underlying22 Ty.t5 rfl λb5 a w ha hs ho=>?_
     clear ho
     refine RN 1 ha hs λa ha=>?_
     obtain⟨b',off',hx,hrd⟩:=(hr _ hs.tail).2.2 _ rfl h0
     cases hx
     refine st_append ha rfl hs Tryz.underlying22 Ty.t5 rfl rfl hrd (by rw[bc_len,h1,Nat.mul_one]) (bc_one bs) h0 (by decide) (by omega) λad7 c7 a w ha hs=>?_
     rw[Nat.zero_add]at ha hs
     refine RT 1 ha hs ?_
     exact⟨_,_,rfl,hs⟩
theorem str_beq (a b:List UInt8):((⟨a.toArray⟩:ByteArray).data.toList==(⟨b.toArray⟩:ByteArray).data.toList)=(a==b):=rfl
theorem bytes_equal {a b:List UInt8}{ad2:Option Addr}{m n c2:Nat}(ha':RdB w ad m a)(hb':RdB w ad2 n b) :
   Calls Tryz.prog 211 #[.slice ad m c,.slice ad2 n c2] w λe w'=>e=.returned (.bool (a==b))∧w'=w:=by
 have hs:=St.start w
 refine EN Tryz.func211 Tryz.ntmps211 rfl rfl λa ha=>?_
 refine RN 4 ha hs λa ha=>?_
 refine SS ha (ex_toString ha Tryz.underlying22 Tryz.underlying5 Tryz.underlying9 (ha')) λa ha=>?_
 refine RN 1 ha hs λa ha=>?_
 refine SS ha (ex_toString ha Tryz.underlying22 Tryz.underlying5 Tryz.underlying9 (hb')) λa ha=>?_
 refine RN 0 ha hs λa ha=>?_
 refine SS ha (ex_eqlS ha) λa ha=>?_
 refine RT 1 ha hs ?_
 exact⟨by rw[str_beq],rfl⟩
theorem take_eq_succ {p q:List (List UInt8)}{k:Nat}{x y:List UInt8}(h:p.take k=q.take k)(hx:p[k]?=some x)(hy:q[k]?=some y):(p.take (k+1)=q.take (k+1))↔x=y:=by
 obtain⟨h1,rfl⟩:=List.getElem?_eq_some_iff.1 hx
 obtain⟨h2,rfl⟩:=List.getElem?_eq_some_iff.1 hy
 rw[List.take_succ_eq_append_getElem h1,List.take_succ_eq_append_getElem h2,h]
 exact⟨λe=>by have:=List.append_cancel_left e;simpa using this,λe=>by rw[e]⟩
theorem equal_func {p q:List (List UInt8)}{ad2:Option Addr}{m c2:Nat}(hp:RdBB w ad m p)(hq:RdBB w ad2 m q)(hb:m≤1099511627776) :
   Calls Tryz.prog 210 #[.slice ad m c,.slice ad2 m c2,.func (.func 211) #[] #[]] w λe w'=>e=.returned (.bool (p==q))∧w'=w:=by
 have hpl:=hp.1
 have hql:=hq.1
 obtain⟨W,hw0⟩:∃ W,w=W:=⟨w,rfl⟩
 have hs:St W w []:=hw0 ▸ St.start w
 refine EN Tryz.func210 Tryz.ntmps210 rfl rfl λa ha=>?_
 refine RN 9 ha hs λa ha=>?_
 rw[dneI]at ha
 replace ha:=ha.isF 14
 refine RN 6 ha hs λa ha=>?_
 refine wp_loop_ghost (λμ a w=>∃ k:Nat,(μ=m-k∧k≤m∧p.take k=q.take k∧w=W)∧Fr a 32 [(1,.slice ad2 m c2),(2,.func (.func 211) #[] #[]),(15,.slice ad m c),(16,.int .i64 m),(17,.int .i64 k)]∧St W w []) (m) (⟨0,⟨by simp,by simp,by simp,hw0⟩,ha.keep [1,2,15,16,17],hs⟩) ?_
 clear ha hs
 rintro μ a w ⟨k,⟨rfl,hk,hkt,hww⟩,ha,hs⟩
 subst hww hw0
 refine IF 3 ha hs (λhc1 a ha=>?_) λhc1 a ha=>?_
 ·
  refine RN 2 ha hs λa ha=>?_
  obtain⟨b1,o1,rfl,h1⟩:=hp.2 (by omega)
  obtain⟨b2,o2,rfl,h2⟩:=hq.2 (by omega)
  have hx1:p[k]?=some p[k]:=List.getElem?_eq_getElem (by omega)
  have hx2:q[k]?=some q[k]:=List.getElem?_eq_getElem (by omega)
  obtain⟨a1,c1',hc1',hr1⟩:=h1 k _ hx1
  obtain⟨a2,c2',hc2',hr2⟩:=h2 k _ hx2
  have hiff:=take_eq_succ hkt hx1 hx2
  refine RN 2 ha hs λa ha=>?_
  refine SS ha (ld1 ha (hc1')) λa ha=>?_
  refine RN 6 ha hs λa ha=>?_
  refine SS ha (ld1 ha (hc2')) λa ha=>?_
  refine CL 5 ha hs (bytes_equal hr1 hr2) λa w ha hx=>?_
  obtain rfl:=hx
  refine IF 1 ha (St.start _) (λhc2 a ha=>?_) λhc2 a ha=>?_
  ·
   have hne:¬ p[k]=q[k]:=by simpa using hc2
   refine RT 2 ha (St.start _) ?_
   refine⟨?_,rfl⟩
   have:(p==q)=false:=by
     rw[beq_eq_false_iff_ne]
     intro e
     exact hne (hiff.1 (by rw[e]))
   rw[this]
  have heq:p[k]=q[k]:=by simpa using hc2
  refine RN 2 ha (St.start _) λa ha=>?_
  exact⟨m-(k+1),by omega,k+1,⟨rfl,by omega,hiff.2 heq,rfl⟩,ha.keep [1,2,15,16,17],St.start _⟩
 refine RT 2 ha hs ?_
 obtain rfl:k=m:=by omega
 rw[List.take_of_length_le (by omega),List.take_of_length_le (by omega)]at hkt
 subst hkt
 exact⟨by rw[beq_self_eq_true],rfl⟩
def RdX (w:World)(ad:Option Addr)(xs:List BBx):Prop:=(0<xs.length→∃ b off,ad=some ⟨b,off,none⟩∧Rd w b off (xs.map bbv))∧∀ x∈xs,RdB w x.1 x.2.2.length x.2.2
theorem RdX.bb (h:RdX w ad xs):RdBB w ad xs.length (xs.map (·.2.2)):=by
 refine⟨by simp,λh0=>?_⟩
 obtain⟨b,off,h1,h2⟩:=h.1 h0
 refine⟨b,off,h1,λj bs hj=>?_⟩
 rw[List.getElem?_map]at hj
 obtain⟨x,hx,rfl⟩:=Option.map_eq_some_iff.1 hj
 exact⟨x.1,x.2.1,h2 j _ (by rw[List.getElem?_map,hx];rfl),h.2 x (List.mem_of_getElem? hx)⟩
theorem St.rdX {m:Nat}(hs:St W w (Sl 22 1 ad m c (xs.map bbv)::All bbo xs::L)):RdX w ad xs:=by
 have hm:xs.length=m:=by have:=(hs.sl ad).1;simpa using this
 refine⟨λh0=>hs.slRd ad (by omega),λx hx=>?_⟩
 obtain⟨i,hi,rfl⟩:=List.mem_iff_getElem.1 hx
 have h4:=(hs.perm (List.Perm.swap _ _ _)).allOut hi
 have h5:St W w (Sl 5 1 xs[i].1 xs[i].2.2.length xs[i].2.1 (bc xs[i].2.2)::_):=h4
 exact h5.rdB xs[i].1 xs[i].2.2 rfl rfl
end
end
end Go.Proofs.YtdilfdkendjjhaaGreat
