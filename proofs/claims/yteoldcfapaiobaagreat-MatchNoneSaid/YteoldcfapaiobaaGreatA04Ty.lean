/- The program's types and functions, as far as the steps ask for them. -/
import Derived.Test.YteoldcfapaiobaaGreatA03Run
import Derived.Test.YteoldcfapaiobaaGreatProg
import Derived.KernelRfl
import Derived.Test.YteoldcfapaiobaaGreatA02Row
import Derived.Maps.Own
namespace Go.Proofs.YteoldcfapaiobaaGreat
open Go.RowKit
set_option linter.unusedVariables false
set_option linter.unusedSimpArgs false
set_option maxRecDepth 10000
set_option synthInstance.maxSize 4000
set_option synthInstance.maxHeartbeats 400000
section
instance Ty.t2:TI Tryz.prog 2 (.int .i64 0) 1 8:=TI.of (by kernel_rfl)
instance Ty.t3:TI Tryz.prog 3 (.int .i64 0) 1 8:=TI.of (by kernel_rfl)
instance Ty.t4:TI Tryz.prog 4 (.bool false) 1 1:=TI.of (by kernel_rfl)
instance Ty.t5:TI Tryz.prog 5 (.int .u8 0) 1 1:=TI.of (by kernel_rfl)
instance Ty.t9:TI Tryz.prog 9 (.string ⟨#[]⟩) 1 16:=TI.of (by kernel_rfl)
instance Ty.t21:TI Tryz.prog 21 (.int .i32 0) 1 4:=TI.of (by kernel_rfl)
instance Ty.t22:TI Tryz.prog 22 (.slice none 0 0) 1 24:=TI.of (by kernel_rfl)
instance Ty.t28:TI Tryz.prog 28 (.agg #[.int .i64 0,.int .i64 0,.int .i64 0,.int .i64 0,.int .i64 0,.int .i64 0,.int .i64 0,.int .i64 0,.int .i64 0,.int .i64 0]) 10 80:=TI.of (by kernel_rfl)
instance Ty.t43:TI Tryz.prog 43 (.slice none 0 0) 1 24:=TI.of (by kernel_rfl)
instance Ty.t45:TI Tryz.prog 45 (.agg #[.string ⟨#[]⟩,.slice none 0 0]) 2 40:=TI.of (by kernel_rfl)
instance Ty.t58:TI Tryz.prog 58 (.agg #[.int .i64 0,.int .i64 0,.int .i64 0,.int .i64 0]) 4 32:=TI.of (by kernel_rfl)
instance Ty.t62:TI Tryz.prog 62 (.pointer none) 1 8:=TI.of (by kernel_rfl)
instance Ty.t69:TI Tryz.prog 69 (.slice none 0 0) 1 24:=TI.of (by kernel_rfl)
instance Ty.t81:TI Tryz.prog 81 (.nilIface) 1 16:=TI.of (by kernel_rfl)
instance Ty.t90:TI Tryz.prog 90 (.slice none 0 0) 1 24:=TI.of (by kernel_rfl)
instance Ty.t100:TI Tryz.prog 100 (.int .u32 0) 1 4:=TI.of (by kernel_rfl)
instance Ty.t102:TI Tryz.prog 102 (.agg #[.int .i64 0,.int .i64 0,.int .i64 0]) 3 24:=TI.of (by kernel_rfl)
instance Ty.t104:TI Tryz.prog 104 (.slice none 0 0) 1 24:=TI.of (by kernel_rfl)
instance Ty.t105:TI Tryz.prog 105 (.slice none 0 0) 1 24:=TI.of (by kernel_rfl)
instance Ty.t107:TI Tryz.prog 107 (.agg #[.slice none 0 0,.pointer none,.slice none 0 0]) 3 56:=TI.of (by kernel_rfl)
instance Ty.t108:TI Tryz.prog 108 (.slice none 0 0) 1 24:=TI.of (by kernel_rfl)
instance Ty.t110:TI Tryz.prog 110 (.agg #[.slice none 0 0]) 1 24:=TI.of (by kernel_rfl)
instance Ty.t114:TI Tryz.prog 114 (.agg #[.int .i64 0,.int .i64 0,.int .i64 0,.int .i64 0]) 4 32:=TI.of (by kernel_rfl)
instance Ty.t124:TI Tryz.prog 124 (.agg #[.int .i64 0,.int .i64 0,.slice none 0 0]) 3 40:=TI.of (by kernel_rfl)
instance Ty.t135:TI Tryz.prog 135 (.agg #[.nilIface]) 1 16:=TI.of (by kernel_rfl)
instance Ty.t139:TI Tryz.prog 139 (.pointer none) 1 8:=TI.of (by kernel_rfl)
instance Ty.t158:TI Tryz.prog 158 (.pointer none) 1 8:=TI.of (by kernel_rfl)
instance Ty.t162:TI Tryz.prog 162 (.pointer none) 1 8:=TI.of (by kernel_rfl)
instance Ty.t166:TI Tryz.prog 166 (.int .i64 0) 1 8:=TI.of (by kernel_rfl)
instance Ty.t168:TI Tryz.prog 168 (.slice none 0 0) 1 24:=TI.of (by kernel_rfl)
instance Ty.t169:TI Tryz.prog 169 (.pointer none) 1 8:=TI.of (by kernel_rfl)
instance Ty.t173:TI Tryz.prog 173 (.pointer none) 1 8:=TI.of (by kernel_rfl)
instance Ty.t175:TI Tryz.prog 175 (.slice none 0 0) 1 24:=TI.of (by kernel_rfl)
instance Ty.t177:TI Tryz.prog 177 (.agg #[.pointer none,.string ⟨#[]⟩,.slice none 0 0,.pointer none,.pointer none,.pointer none,.slice none 0 0,.int .i64 0,.int .i64 0]) 9 112:=TI.of (by kernel_rfl)
instance Ty.t179:TI Tryz.prog 179 (.pointer none) 1 8:=TI.of (by kernel_rfl)
instance Ty.t183:TI Tryz.prog 183 (.agg #[.int .i32 0,.int .i32 0,.int .i32 0,.int .i32 0,.int .i32 0,.int .i32 0,.int .i32 0,.int .i32 0,.int .i32 0,.int .i32 0,.int .i32 0,.int .i32 0,.int .i32 0,.int .i32 0,.int .i32 0,.int .i32 0,.int .i32 0,.int .i32 0,.int .i32 0,.int .i32 0,.int .i32 0,.int .i32 0,.int .i32 0,.int .i32 0,.int .i32 0,.int .i32 0,.int .i32 0,.int .i32 0,.int .i32 0,.int .i32 0,.int .i32 0,.int .i32 0]) 32 128:=TI.of (by kernel_rfl)
instance Ty.t186:TI Tryz.prog 186 (.agg #[.int .i64 0,.int .i64 0,.slice none 0 0]) 3 40:=TI.of (by kernel_rfl)
instance Ty.t187:TI Tryz.prog 187 (.pointer none) 1 8:=TI.of (by kernel_rfl)
instance Ty.t192:TI Tryz.prog 192 (.agg ((.pointer none::.string ⟨#[]⟩::.slice none 0 0::.int .i64 0::.int .i64 0::.slice none 0 0::.int .i32 0::.int .i32 0::.int .i32 0::.int .i32 0::.int .i32 0::.int .i32 0::.int .i32 0::.int .i32 0::.int .i32 0::.int .i32 0::.int .i32 0::.int .i32 0::.int .i32 0::.int .i32 0::.int .i32 0::.int .i32 0::.int .i32 0::.int .i32 0::.int .i32 0::.int .i32 0::.int .i32 0::.int .i32 0::.int .i32 0::.int .i32 0::.int .i32 0::.int .i32 0::.int .i32 0::.int .i32 0::.int .i32 0::.int .i32 0::.int .i32 0::.int .i32 0::[]):List Value).toArray) 38 216:=TI.of (by kernel_rfl)
instance Ty.t203:TI Tryz.prog 203 (.agg #[.int .i64 0,.int .i64 0,.int .i64 0,.int .i64 0,.int .i64 0,.slice none 0 0,.int .i64 0,.int .i64 0,.int .u32 0]) 9 88:=TI.of (by kernel_rfl)
instance Ty.t207:TI Tryz.prog 207 (.slice none 0 0) 1 24:=TI.of (by kernel_rfl)
instance Ty.t210:TI Tryz.prog 210 (.agg #[.int .i64 0]) 1 8:=TI.of (by kernel_rfl)
instance Ty.t211:TI Tryz.prog 211 (.agg #[.int .i64 0]) 1 8:=TI.of (by kernel_rfl)
instance Ty.t213:TI Tryz.prog 213 (.agg #[.int .i64 0,.int .i64 0]) 2 16:=TI.of (by kernel_rfl)
instance Ty.t218:TI Tryz.prog 218 (.map none) 1 8:=TI.of (by kernel_rfl)
instance Ty.t219:TI Tryz.prog 219 (.pointer none) 1 8:=TI.of (by kernel_rfl)
instance Ty.t221:TI Tryz.prog 221 (.agg #[.pointer none,.map none,.int .i64 0]) 3 24:=TI.of (by kernel_rfl)
instance Ty.t222:TI Tryz.prog 222 (.slice none 0 0) 1 24:=TI.of (by kernel_rfl)
instance Ty.t224:TI Tryz.prog 224 (.agg #[.slice none 0 0]) 1 24:=TI.of (by kernel_rfl)
instance Ty.t225:TI Tryz.prog 225 (.agg #[.int .i32 0,.int .i32 0,.int .i32 0,.int .i32 0,.int .i32 0,.int .i32 0,.int .i32 0,.int .i32 0]) 8 32:=TI.of (by kernel_rfl)
instance Ty.t227:TI Tryz.prog 227 (.agg #[.int .i32 0,.int .i32 0,.int .i32 0,.int .i32 0,.int .i32 0,.int .i32 0,.int .i32 0,.int .i32 0,.int .i64 0]) 9 40:=TI.of (by kernel_rfl)
instance Ty.t230:TI Tryz.prog 230 (.agg #[.int .i64 0,.int .i64 0,.int .i64 0,.int .i64 0]) 4 32:=TI.of (by kernel_rfl)
instance Ty.t232:TI Tryz.prog 232 (.agg #[.int .i64 0,.int .i64 0,.int .i64 0,.int .i64 0,.int .i64 0]) 5 40:=TI.of (by kernel_rfl)
instance Ty.t236:TI Tryz.prog 236 (.agg #[.pointer none,.int .i64 0,.slice none 0 0,.int .i64 0,.int .i64 0]) 5 56:=TI.of (by kernel_rfl)
instance Ty.t238:TI Tryz.prog 238 (.agg #[.int .i64 0,.int .i64 0,.slice none 0 0,.int .i64 0,.int .i64 0]) 5 56:=TI.of (by kernel_rfl)
instance Ty.t241:TI Tryz.prog 241 (.slice none 0 0) 1 24:=TI.of (by kernel_rfl)
instance Ty.t243:TI Tryz.prog 243 (.agg #[.slice none 0 0]) 1 24:=TI.of (by kernel_rfl)
instance Ty.t245:TI Tryz.prog 245 (.agg #[.int .i64 0,.int .i64 0]) 2 16:=TI.of (by kernel_rfl)
instance Ty.t247:TI Tryz.prog 247 (.agg #[.string ⟨#[]⟩,.slice none 0 0,.pointer none,.pointer none,.pointer none,.bool false,.int .i64 0,.int .i64 0,.int .i64 0,.int .i64 0,.bool false]) 11 112:=TI.of (by kernel_rfl)
instance Ty.t253:TI Tryz.prog 253 (.pointer none) 1 8:=TI.of (by kernel_rfl)
instance Ty.t255:TI Tryz.prog 255 (.slice none 0 0) 1 24:=TI.of (by kernel_rfl)
instance Ty.t257:TI Tryz.prog 257 (.agg #[.int .i64 0,.int .i64 0,.int .i64 0,.int .i64 0,.int .i64 0,.int .i64 0,.int .i64 0,.int .i64 0,.int .i64 0,.int .i64 0,.pointer none,.slice none 0 0,.slice none 0 0,.slice none 0 0,.int .i64 0,.bool false]) 16 176:=TI.of (by kernel_rfl)
instance Ty.t259:TI Tryz.prog 259 (.agg #[.int .i64 0,.int .i64 0,.int .i64 0,.int .u32 0,.bool false]) 5 32:=TI.of (by kernel_rfl)
instance Ty.t286:TI Tryz.prog 286 (.slice none 0 0) 1 24:=TI.of (by kernel_rfl)
instance Ty.t288:TI Tryz.prog 288 (.agg #[.slice none 0 0]) 1 24:=TI.of (by kernel_rfl)
instance Ty.t289:TI Tryz.prog 289 (.pointer none) 1 8:=TI.of (by kernel_rfl)
instance Ty.t296:TI Tryz.prog 296 (.agg ((.int .i32 0::.int .i32 0::.int .i32 0::.int .i32 0::.int .i32 0::.int .i32 0::.int .i32 0::.int .i32 0::.int .i32 0::.int .i32 0::.int .i32 0::.int .i32 0::.int .i32 0::.int .i32 0::.int .i32 0::.int .i32 0::.int .i32 0::.int .i32 0::.int .i32 0::.int .i32 0::.int .i32 0::.int .i32 0::.int .i32 0::.int .i32 0::.int .i32 0::.int .i32 0::.int .i32 0::.int .i32 0::.int .i32 0::.int .i32 0::.int .i32 0::.int .i32 0::[]):List Value).toArray) 32 128:=TI.of (by kernel_rfl)
instance Ty.t307:TI Tryz.prog 307 (.agg #[.pointer none,.int .i64 0,.bool false]) 3 24:=TI.of (by kernel_rfl)
instance Ty.t320:TI Tryz.prog 320 (.agg (List.replicate 256 (.int .i64 0)).toArray) 256 2048:=TI.of (by kernel_rfl)
instance Ty.t328:TI Tryz.prog 328 (.agg #[.slice none 0 0]) 1 24:=TI.of (by kernel_rfl)
instance Ty.t333:TI Tryz.prog 333 (.nilIface) 1 16:=TI.of (by kernel_rfl)
instance Ty.t336:TI Tryz.prog 336 (.agg #[.string ⟨#[]⟩,.slice none 0 0,.nilIface,.int .i64 0,.slice none 0 0,.int .i64 0]) 6 96:=TI.of (by kernel_rfl)
instance Ty.t423:TI Tryz.prog 423 (.agg #[.int .u8 0,.int .u8 0]) 2 2:=TI.of (by kernel_rfl)
instance Ty.t427:TI Tryz.prog 427 (.agg #[.slice none 0 0,.bool false]) 2 32:=TI.of (by kernel_rfl)
instance Ty.t429:TI Tryz.prog 429 (.agg #[.int .i64 0,.int .i64 0,.int .i64 0]) 3 24:=TI.of (by kernel_rfl)
instance Ty.b28:BuildT Tryz.prog 28 [(0,1),(1,1),(2,1),(3,1),(4,1),(5,1),(6,1),(7,1),(8,1),(9,1)]:=⟨_,Tryz.underlying28,λw=>by kernel_rfl⟩
instance Ty.b45:BuildT Tryz.prog 45 [(0,1),(1,1)]:=⟨_,Tryz.underlying45,λw=>by kernel_rfl⟩
instance Ty.b58:BuildT Tryz.prog 58 [(0,1),(1,1),(2,1),(3,1)]:=⟨_,Tryz.underlying58,λw=>by kernel_rfl⟩
instance Ty.b102:BuildT Tryz.prog 102 [(0,1),(1,1),(2,1)]:=⟨_,Tryz.underlying102,λw=>by kernel_rfl⟩
instance Ty.b107:BuildT Tryz.prog 107 [(0,1),(1,1),(2,1)]:=⟨_,Tryz.underlying107,λw=>by kernel_rfl⟩
instance Ty.b110:BuildT Tryz.prog 110 [(0,1)]:=⟨_,Tryz.underlying110,λw=>by kernel_rfl⟩
instance Ty.b114:BuildT Tryz.prog 114 [(0,1),(1,1),(2,1),(3,1)]:=⟨_,Tryz.underlying114,λw=>by kernel_rfl⟩
instance Ty.b124:BuildT Tryz.prog 124 [(0,1),(1,1),(2,1)]:=⟨_,Tryz.underlying124,λw=>by kernel_rfl⟩
instance Ty.b135:BuildT Tryz.prog 135 [(0,1)]:=⟨_,Tryz.underlying135,λw=>by kernel_rfl⟩
instance Ty.b177:BuildT Tryz.prog 177 [(0,1),(1,2),(3,1),(4,1),(5,1),(6,1),(7,1),(8,1)]:=⟨_,Tryz.underlying177,λw=>by kernel_rfl⟩
instance Ty.b186:BuildT Tryz.prog 186 [(0,1),(1,1),(2,1)]:=⟨_,Tryz.underlying186,λw=>by kernel_rfl⟩
instance Ty.b192:BuildT Tryz.prog 192 [(0,1),(1,2),(3,3),(6,32)]:=⟨_,Tryz.underlying192,λw=>by kernel_rfl⟩
instance Ty.b203:BuildT Tryz.prog 203 [(0,1),(1,1),(2,1),(3,1),(4,1),(5,1),(6,1),(7,1),(8,1)]:=⟨_,Tryz.underlying203,λw=>by kernel_rfl⟩
instance Ty.b210:BuildT Tryz.prog 210 [(0,1)]:=⟨_,Tryz.underlying210,λw=>by kernel_rfl⟩
instance Ty.b211:BuildT Tryz.prog 211 [(0,1)]:=⟨_,Tryz.underlying211,λw=>by kernel_rfl⟩
instance Ty.b213:BuildT Tryz.prog 213 [(0,1),(1,1)]:=⟨_,Tryz.underlying213,λw=>by kernel_rfl⟩
instance Ty.b221:BuildT Tryz.prog 221 [(0,1),(1,1),(2,1)]:=⟨_,Tryz.underlying221,λw=>by kernel_rfl⟩
instance Ty.b224:BuildT Tryz.prog 224 [(0,1)]:=⟨_,Tryz.underlying224,λw=>by kernel_rfl⟩
instance Ty.b227:BuildT Tryz.prog 227 [(0,8),(8,1)]:=⟨_,Tryz.underlying227,λw=>by kernel_rfl⟩
instance Ty.b236:BuildT Tryz.prog 236 [(0,1),(1,1),(2,1),(3,1),(4,1)]:=⟨_,Tryz.underlying236,λw=>by kernel_rfl⟩
instance Ty.b238:BuildT Tryz.prog 238 [(0,1),(1,1),(2,1),(3,1),(4,1)]:=⟨_,Tryz.underlying238,λw=>by kernel_rfl⟩
instance Ty.b243:BuildT Tryz.prog 243 [(0,1)]:=⟨_,Tryz.underlying243,λw=>by kernel_rfl⟩
instance Ty.b245:BuildT Tryz.prog 245 [(0,1),(1,1)]:=⟨_,Tryz.underlying245,λw=>by kernel_rfl⟩
instance Ty.b247:BuildT Tryz.prog 247 [(0,2),(2,1),(3,1),(4,1),(5,1),(6,2),(8,1),(9,1),(10,1)]:=⟨_,Tryz.underlying247,λw=>by kernel_rfl⟩
instance Ty.b257:BuildT Tryz.prog 257 [(0,10),(10,1),(11,1),(12,1),(13,1),(14,1),(15,1)]:=⟨_,Tryz.underlying257,λw=>by kernel_rfl⟩
instance Ty.b259:BuildT Tryz.prog 259 [(0,1),(1,1),(2,1),(3,1),(4,1)]:=⟨_,Tryz.underlying259,λw=>by kernel_rfl⟩
instance Ty.b288:BuildT Tryz.prog 288 [(0,1)]:=⟨_,Tryz.underlying288,λw=>by kernel_rfl⟩
instance Ty.b296:BuildT Tryz.prog 296 [(0,32)]:=⟨_,Tryz.underlying296,λw=>by kernel_rfl⟩
instance Ty.b307:BuildT Tryz.prog 307 [(0,1),(1,1),(2,1)]:=⟨_,Tryz.underlying307,λw=>by kernel_rfl⟩
instance Ty.b328:BuildT Tryz.prog 328 [(0,1)]:=⟨_,Tryz.underlying328,λw=>by kernel_rfl⟩
instance Ty.b336:BuildT Tryz.prog 336 [(0,2),(2,1),(3,1),(4,1),(5,1)]:=⟨_,Tryz.underlying336,λw=>by kernel_rfl⟩
instance Ty.b427:BuildT Tryz.prog 427 [(0,1),(1,1)]:=⟨_,Tryz.underlying427,λw=>by kernel_rfl⟩
abbrev U2:=Und.of Tryz.underlying2
abbrev U3:=Und.of Tryz.underlying3
abbrev U4:=Und.of Tryz.underlying4
abbrev U5:=Und.of Tryz.underlying5
abbrev U9:=Und.of Tryz.underlying9
abbrev U21:=Und.of Tryz.underlying21
abbrev U22:=Und.of Tryz.underlying22
abbrev U28:=Und.of Tryz.underlying28
abbrev U31:=Und.of Tryz.underlying31
abbrev U33:=Und.of Tryz.underlying33
abbrev U34:=Und.of Tryz.underlying34
abbrev U35:=Und.of Tryz.underlying35
abbrev U36:=Und.of Tryz.underlying36
abbrev U37:=Und.of Tryz.underlying37
abbrev U38:=Und.of Tryz.underlying38
abbrev U40:=Und.of Tryz.underlying40
abbrev U42:=Und.of Tryz.underlying42
abbrev U43:=Und.of Tryz.underlying43
abbrev U45:=Und.of Tryz.underlying45
abbrev U47:=Und.of Tryz.underlying47
abbrev U49:=Und.of Tryz.underlying49
abbrev U51:=Und.of Tryz.underlying51
abbrev U53:=Und.of Tryz.underlying53
abbrev U54:=Und.of Tryz.underlying54
abbrev U55:=Und.of Tryz.underlying55
abbrev U58:=Und.of Tryz.underlying58
abbrev U60:=Und.of Tryz.underlying60
abbrev U62:=Und.of Tryz.underlying62
abbrev U65:=Und.of Tryz.underlying65
abbrev U66:=Und.of Tryz.underlying66
abbrev U67:=Und.of Tryz.underlying67
abbrev U68:=Und.of Tryz.underlying68
abbrev U69:=Und.of Tryz.underlying69
abbrev U70:=Und.of Tryz.underlying70
abbrev U72:=Und.of Tryz.underlying72
abbrev U74:=Und.of Tryz.underlying74
abbrev U78:=Und.of Tryz.underlying78
abbrev U81:=Und.of Tryz.underlying81
abbrev U84:=Und.of Tryz.underlying84
abbrev U90:=Und.of Tryz.underlying90
abbrev U100:=Und.of Tryz.underlying100
abbrev U102:=Und.of Tryz.underlying102
abbrev U104:=Und.of Tryz.underlying104
abbrev U105:=Und.of Tryz.underlying105
abbrev U107:=Und.of Tryz.underlying107
abbrev U108:=Und.of Tryz.underlying108
abbrev U110:=Und.of Tryz.underlying110
abbrev U114:=Und.of Tryz.underlying114
abbrev U124:=Und.of Tryz.underlying124
abbrev U133:=Und.of Tryz.underlying133
abbrev U135:=Und.of Tryz.underlying135
abbrev U139:=Und.of Tryz.underlying139
abbrev U158:=Und.of Tryz.underlying158
abbrev U160:=Und.of Tryz.underlying160
abbrev U162:=Und.of Tryz.underlying162
abbrev U164:=Und.of Tryz.underlying164
abbrev U166:=Und.of Tryz.underlying166
abbrev U168:=Und.of Tryz.underlying168
abbrev U169:=Und.of Tryz.underlying169
abbrev U173:=Und.of Tryz.underlying173
abbrev U175:=Und.of Tryz.underlying175
abbrev U177:=Und.of Tryz.underlying177
abbrev U179:=Und.of Tryz.underlying179
abbrev U183:=Und.of Tryz.underlying183
abbrev U186:=Und.of Tryz.underlying186
abbrev U187:=Und.of Tryz.underlying187
abbrev U192:=Und.of Tryz.underlying192
abbrev U203:=Und.of Tryz.underlying203
abbrev U207:=Und.of Tryz.underlying207
abbrev U210:=Und.of Tryz.underlying210
abbrev U211:=Und.of Tryz.underlying211
abbrev U213:=Und.of Tryz.underlying213
abbrev U218:=Und.of Tryz.underlying218
abbrev U219:=Und.of Tryz.underlying219
abbrev U221:=Und.of Tryz.underlying221
abbrev U222:=Und.of Tryz.underlying222
abbrev U224:=Und.of Tryz.underlying224
abbrev U225:=Und.of Tryz.underlying225
abbrev U227:=Und.of Tryz.underlying227
abbrev U230:=Und.of Tryz.underlying230
abbrev U232:=Und.of Tryz.underlying232
abbrev U233:=Und.of Tryz.underlying233
abbrev U236:=Und.of Tryz.underlying236
abbrev U238:=Und.of Tryz.underlying238
abbrev U241:=Und.of Tryz.underlying241
abbrev U243:=Und.of Tryz.underlying243
abbrev U245:=Und.of Tryz.underlying245
abbrev U247:=Und.of Tryz.underlying247
abbrev U253:=Und.of Tryz.underlying253
abbrev U255:=Und.of Tryz.underlying255
abbrev U257:=Und.of Tryz.underlying257
abbrev U259:=Und.of Tryz.underlying259
abbrev U270:=Und.of Tryz.underlying270
abbrev U286:=Und.of Tryz.underlying286
abbrev U288:=Und.of Tryz.underlying288
abbrev U289:=Und.of Tryz.underlying289
abbrev U294:=Und.of Tryz.underlying294
abbrev U296:=Und.of Tryz.underlying296
abbrev U305:=Und.of Tryz.underlying305
abbrev U307:=Und.of Tryz.underlying307
abbrev U313:=Und.of Tryz.underlying313
abbrev U314:=Und.of Tryz.underlying314
abbrev U319:=Und.of Tryz.underlying319
abbrev U320:=Und.of Tryz.underlying320
abbrev U322:=Und.of Tryz.underlying322
abbrev U328:=Und.of Tryz.underlying328
abbrev U333:=Und.of Tryz.underlying333
abbrev U336:=Und.of Tryz.underlying336
abbrev U343:=Und.of Tryz.underlying343
abbrev U345:=Und.of Tryz.underlying345
abbrev U351:=Und.of Tryz.underlying351
abbrev U366:=Und.of Tryz.underlying366
abbrev U423:=Und.of Tryz.underlying423
abbrev U427:=Und.of Tryz.underlying427
abbrev U429:=Und.of Tryz.underlying429
attribute [instance] U2 U3 U4 U5 U9 U21 U22 U28 U31 U33 U34 U35 U36 U37 U38 U40 U42 U43 U45 U47 U49 U51 U53 U54 U55 U58 U60 U62 U65 U66 U67 U68 U69 U70 U72 U74 U78 U81 U84 U90 U100 U102 U104 U105 U107 U108 U110 U114 U124 U133 U135 U139 U158 U160 U162 U164 U166 U168 U169 U173 U175 U177 U179 U183 U186 U187 U192 U203 U207 U210 U211 U213 U218 U219 U221 U222 U224 U225 U227 U230 U232 U233 U236 U238 U241 U243 U245 U247 U253 U255 U257 U259 U270 U286 U288 U289 U294 U296 U305 U307 U313 U314 U319 U320 U322 U328 U333 U336 U343 U345 U351 U366 U423 U427 U429
theorem Ty.mixed:Tryz.prog.follows .mixedOrders=true:=by kernel_rfl
instance:Mixed Tryz.prog:=⟨Ty.mixed⟩
end
section
theorem St.rdB {W w:World}{L R:List SP}{n c e:Nat}{cs:List Value}(hs:St W w L)(ad:Option Addr)(bs:List UInt8)[k:PickSl L ad n c e 1 cs R](h:cs=bc bs)(hn:bs.length=n):RdB w ad n bs:=by
 subst h
 refine⟨hn,λe=>?_,λx hx hp=>?_⟩
 · rcases Nat.eq_zero_or_pos n with h0 | h0
   · exact h0
   · obtain⟨b,off,e2,_⟩:=hs.slRd ad h0
     rw[e]at e2;cases e2
 · obtain⟨b,off,e2,hr⟩:=hs.slRd ad hp
   exact⟨b,off,by rw[hx]at e2;cases e2;rfl,hr⟩
theorem RdB.nil {w:World}{ad:Option Addr}:RdB w ad 0 []:=⟨rfl,λ_=>rfl,λ_ _ h=>absurd h (by decide)⟩
theorem cutAd_zero (ad:Option Addr)(c sz:Nat):cutAd ad 0 c sz=ad:=by
 unfold cutAd
 split
 · rfl
 · cases ad with
   | none=>rfl
   | some a=>simp[Addr.add]
def RdBB (w:World)(ad:Option Addr)(m:Nat)(p:List (List UInt8)):Prop :=
 p.length=m∧(0<m→∃ b off,ad=some ⟨b,off,none⟩∧∀ j bs,p[j]?=some bs→∃ ad' c',w.cell? ⟨b,off+j,none⟩=some (.slice ad' bs.length c')∧RdB w ad' bs.length bs)
theorem RdBB.take {w:World}{ad:Option Addr}{m n:Nat}{p:List (List UInt8)}(h:RdBB w ad m p)(hn:n≤m):RdBB w ad n (p.take n):=by
 refine⟨by rw[List.length_take,h.1];omega,λh0=>?_⟩
 obtain⟨b,off,h1,h2⟩:=h.2 (by omega)
 refine⟨b,off,h1,λj bs hj=>?_⟩
 rw[List.getElem?_take]at hj
 by_cases hjn:j<n
 · rw[if_pos hjn]at hj;exact h2 j bs hj
 · rw[if_neg hjn]at hj;cases hj
abbrev BBx:=Option Addr×Nat×List UInt8
def bbv (x:BBx):Value:=.slice x.1 x.2.2.length x.2.1
def bbo (x:BBx):SP:=Sl 5 1 x.1 x.2.2.length x.2.1 (bc x.2.2)
def OwnBB (ad:Option Addr)(n c:Nat)(p:List (List UInt8)):SP:=λh=>∃ xs:List BBx,(xs.map (·.2.2)=p∧p.length=n)∧sepL [Sl 22 1 ad n c (xs.map bbv),All bbo xs] h
section
variable {W w:World}{L L' R:List SP}{ad:Option Addr}{n c:Nat}{p:List (List UInt8)}{xs:List BBx}
theorem OwnBB.open (hs:St W w (OwnBB ad n c p::L)):∃ xs:List BBx,xs.map (·.2.2)=p∧p.length=n∧St W w (Sl 22 1 ad n c (xs.map bbv)::All bbo xs::L):=by
 obtain⟨xs,⟨h1,h2⟩,h3⟩:=hs.exi (ι:=List BBx) (p:=λxs=>xs.map (·.2.2)=p∧p.length=n) (B:=λxs h=>sepL [Sl 22 1 ad n c (xs.map bbv),All bbo xs] h) (λh ⟨xs,h1,h2⟩=>⟨xs,h1,h2⟩)
 exact⟨xs,h1,h2,h3.open λ_ h=>h⟩
theorem OwnBB.close (hs:St W w L)[k:Arr L (Sl 22 1 ad n c (xs.map bbv)::All bbo xs::L') R](h1:xs.map (·.2.2)=p)(h2:p.length=n):St W w (OwnBB ad n c p::L') :=
 St.shut (M:=[_,_]) (hs.sub (M:=Sl 22 1 ad n c (xs.map bbv)::All bbo xs::L')) (λ_ x=>⟨xs,⟨h1,h2⟩,x⟩)
theorem OwnBB.le (hs:St W w (OwnBB ad n c p::L)):p.length=n∧n≤c:=by
 obtain⟨xs,h1,h2,h3⟩:=OwnBB.open hs
 exact⟨h2,(h3.sl ad).2⟩
theorem OwnBB.nil (hs:St W w L):St W w (OwnBB none 0 0 []::L):=by
 have h:St W w (Sl 22 1 none 0 0 (([]:List BBx).map bbv)::All bbo []::L):=(hs.allNil (f:=bbo)).sl0 22 1 none
 exact OwnBB.close (xs:=[]) h rfl rfl
theorem OwnBB.rd (hs:St W w (OwnBB ad n c p::L)):RdBB w ad n p:=by
 obtain⟨xs,h1,h2,h3⟩:=OwnBB.open hs
 refine⟨h2,λh0=>?_⟩
 obtain⟨b,off,rfl,hr⟩:=h3.slRd ad h0
 refine⟨b,off,rfl,λj bs hj=>?_⟩
 rw[← h1,List.getElem?_map]at hj
 obtain⟨x,hx,rfl⟩:=Option.map_eq_some_iff.1 hj
 obtain⟨hxl,hxe⟩:=List.getElem?_eq_some_iff.1 hx
 refine⟨x.1,x.2.1,hr j _ (by rw[List.getElem?_map,hx];rfl),?_⟩
 have h4:=(h3.perm (List.Perm.swap _ _ _)).allOut hxl
 rw[hxe]at h4
 have h5:St W w (Sl 5 1 x.1 x.2.2.length x.2.1 (bc x.2.2)::_):=h4
 exact h5.rdB x.1 x.2.2 rfl rfl
theorem bytes_clone {bs:List UInt8}{m:Nat}(hs:St W w L)(hr:∀ w',St W w' L→RdB w' ad m bs)(hb:m≤1099511627776) :
   Calls Tryz.prog 95 #[.slice ad m c] w λe w'=>∃ ad' c',e=.returned (.slice ad' m c')∧St W w' (Sl 5 1 ad' m c' (bc bs)::L):=by
 obtain⟨h1,h2,h3⟩:=hr _ hs
 cases ad with
 | none =>
   obtain rfl:=h2 rfl
   obtain rfl:bs=[]:=List.eq_nil_of_length_eq_zero h1
   refine EN Tryz.func95 Tryz.ntmps95 rfl rfl λa ha=>?_
   refine RN 6 ha hs λa ha=>?_
   replace ha:=ha.isT 4
   refine RT 3 ha hs ?_
   exact⟨_,_,rfl,hs.sl0 _ _ _⟩
 | some a =>
   rcases Nat.eq_zero_or_pos m with h0 | h0
   · subst h0
     obtain rfl:bs=[]:=List.eq_nil_of_length_eq_zero h1
     refine EN Tryz.func95 Tryz.ntmps95 rfl rfl λa ha=>?_
     refine RN 6 ha hs λa ha=>?_
     replace ha:=ha.isF 4
     refine RN 2 ha hs λa ha=>?_
     refine st_buildSlice0 ha rfl hs Tryz.underlying22 Ty.t5 rfl λb5 a w ha hs ho=>?_
     clear ho
     refine RN 1 ha hs λa ha=>?_
     refine st_append0 ha rfl Tryz.underlying22 Ty.t5 rfl (Nat.le_refl _) λa ha=>?_
     refine RT 1 ha hs ?_
     exact⟨_,_,rfl,hs⟩
   · obtain⟨b,off,rfl,_⟩:=h3 a rfl h0
     refine EN Tryz.func95 Tryz.ntmps95 rfl rfl λa ha=>?_
     refine RN 6 ha hs λa ha=>?_
     replace ha:=ha.isF 4
     refine RN 2 ha hs λa ha=>?_
     refine st_buildSlice0 ha rfl hs Tryz.underlying22 Ty.t5 rfl λb5 a w ha hs ho=>?_
     clear ho
     refine RN 1 ha hs λa ha=>?_
     obtain⟨b',off',hx,hrd⟩:=(hr _ hs.tail).2.2 _ rfl h0
     cases hx
     refine st_append ha rfl hs Tryz.underlying22 Ty.t5 rfl rfl hrd (by rw[bc_len,h1,Nat.mul_one]) (bc_one bs) h0 (by decide) (by omega) λad7 c7 a w ha hs=>?_
     rw[Nat.zero_add]at ha hs
     refine RT 1 ha hs ?_
     exact⟨_,_,rfl,hs⟩
theorem str_beq (a b:List UInt8):((⟨a.toArray⟩:ByteArray).data.toList==(⟨b.toArray⟩:ByteArray).data.toList)=(a==b):=rfl
theorem bytes_equal {a b:List UInt8}{ad2:Option Addr}{m n c2:Nat}(ha':RdB w ad m a)(hb':RdB w ad2 n b) :
   Calls Tryz.prog 313 #[.slice ad m c,.slice ad2 n c2] w λe w'=>e=.returned (.bool (a==b))∧w'=w:=by
 have hs:=St.start w
 refine EN Tryz.func313 Tryz.ntmps313 rfl rfl λa ha=>?_
 refine RN 4 ha hs λa ha=>?_
 refine SS ha (ex_toString ha Tryz.underlying22 Tryz.underlying5 Tryz.underlying9 (ha')) λa ha=>?_
 refine RN 1 ha hs λa ha=>?_
 refine SS ha (ex_toString ha Tryz.underlying22 Tryz.underlying5 Tryz.underlying9 (hb')) λa ha=>?_
 refine RN 0 ha hs λa ha=>?_
 refine SS ha (ex_eqlS ha) λa ha=>?_
 refine RT 1 ha hs ?_
 exact⟨by rw[str_beq],rfl⟩
theorem take_eq_succ {p q:List (List UInt8)}{k:Nat}{x y:List UInt8}(h:p.take k=q.take k)(hx:p[k]?=some x)(hy:q[k]?=some y):(p.take (k+1)=q.take (k+1))↔x=y:=by
 obtain⟨h1,rfl⟩:=List.getElem?_eq_some_iff.1 hx
 obtain⟨h2,rfl⟩:=List.getElem?_eq_some_iff.1 hy
 rw[List.take_succ_eq_append_getElem h1,List.take_succ_eq_append_getElem h2,h]
 exact⟨λe=>by have:=List.append_cancel_left e;simpa using this,λe=>by rw[e]⟩
theorem equal_func {p q:List (List UInt8)}{ad2:Option Addr}{m c2:Nat}(hp:RdBB w ad m p)(hq:RdBB w ad2 m q)(hb:m≤1099511627776) :
   Calls Tryz.prog 312 #[.slice ad m c,.slice ad2 m c2,.func (.func 313) #[] #[]] w λe w'=>e=.returned (.bool (p==q))∧w'=w:=by
 have hpl:=hp.1
 have hql:=hq.1
 obtain⟨W,hw0⟩:∃ W,w=W:=⟨w,rfl⟩
 have hs:St W w []:=hw0 ▸ St.start w
 refine EN Tryz.func312 Tryz.ntmps312 rfl rfl λa ha=>?_
 refine RN 9 ha hs λa ha=>?_
 rw[dneI]at ha
 replace ha:=ha.isF 14
 refine RN 6 ha hs λa ha=>?_
 refine wp_loop_ghost (λμ a w=>∃ k:Nat,(μ=m-k∧k≤m∧p.take k=q.take k∧w=W)∧Fr a 32 [(1,.slice ad2 m c2),(2,.func (.func 313) #[] #[]),(15,.slice ad m c),(16,.int .i64 m),(17,.int .i64 k)]∧St W w []) (m) (⟨0,⟨by simp,by simp,by simp,hw0⟩,ha.keep [1,2,15,16,17],hs⟩) ?_
 clear ha hs
 rintro μ a w ⟨k,⟨rfl,hk,hkt,hww⟩,ha,hs⟩
 subst hww hw0
 refine IF 3 ha hs (λhc1 a ha=>?_) λhc1 a ha=>?_
 ·
  refine RN 2 ha hs λa ha=>?_
  obtain⟨b1,o1,rfl,h1⟩:=hp.2 (by omega)
  obtain⟨b2,o2,rfl,h2⟩:=hq.2 (by omega)
  have hx1:p[k]?=some p[k]:=List.getElem?_eq_getElem (by omega)
  have hx2:q[k]?=some q[k]:=List.getElem?_eq_getElem (by omega)
  obtain⟨a1,c1',hc1',hr1⟩:=h1 k _ hx1
  obtain⟨a2,c2',hc2',hr2⟩:=h2 k _ hx2
  have hiff:=take_eq_succ hkt hx1 hx2
  refine RN 2 ha hs λa ha=>?_
  refine SS ha (ld1 ha (hc1')) λa ha=>?_
  refine RN 6 ha hs λa ha=>?_
  refine SS ha (ld1 ha (hc2')) λa ha=>?_
  refine CL 5 ha hs (bytes_equal hr1 hr2) λa w ha hx=>?_
  obtain rfl:=hx
  refine IF 1 ha (St.start _) (λhc2 a ha=>?_) λhc2 a ha=>?_
  ·
   have hne:¬ p[k]=q[k]:=by simpa using hc2
   refine RT 2 ha (St.start _) ?_
   refine⟨?_,rfl⟩
   have:(p==q)=false:=by
     rw[beq_eq_false_iff_ne]
     intro e
     exact hne (hiff.1 (by rw[e]))
   rw[this]
  have heq:p[k]=q[k]:=by simpa using hc2
  refine RN 2 ha (St.start _) λa ha=>?_
  exact⟨m-(k+1),by omega,k+1,⟨rfl,by omega,hiff.2 heq,rfl⟩,ha.keep [1,2,15,16,17],St.start _⟩
 refine RT 2 ha hs ?_
 obtain rfl:k=m:=by omega
 rw[List.take_of_length_le (by omega),List.take_of_length_le (by omega)]at hkt
 subst hkt
 exact⟨by rw[beq_self_eq_true],rfl⟩
def RdX (w:World)(ad:Option Addr)(xs:List BBx):Prop:=(0<xs.length→∃ b off,ad=some ⟨b,off,none⟩∧Rd w b off (xs.map bbv))∧∀ x∈xs,RdB w x.1 x.2.2.length x.2.2
theorem RdX.bb (h:RdX w ad xs):RdBB w ad xs.length (xs.map (·.2.2)):=by
 refine⟨by simp,λh0=>?_⟩
 obtain⟨b,off,h1,h2⟩:=h.1 h0
 refine⟨b,off,h1,λj bs hj=>?_⟩
 rw[List.getElem?_map]at hj
 obtain⟨x,hx,rfl⟩:=Option.map_eq_some_iff.1 hj
 exact⟨x.1,x.2.1,h2 j _ (by rw[List.getElem?_map,hx];rfl),h.2 x (List.mem_of_getElem? hx)⟩
theorem St.rdX {m:Nat}(hs:St W w (Sl 22 1 ad m c (xs.map bbv)::All bbo xs::L)):RdX w ad xs:=by
 have hm:xs.length=m:=by have:=(hs.sl ad).1;simpa using this
 refine⟨λh0=>hs.slRd ad (by omega),λx hx=>?_⟩
 obtain⟨i,hi,rfl⟩:=List.mem_iff_getElem.1 hx
 have h4:=(hs.perm (List.Perm.swap _ _ _)).allOut hi
 have h5:St W w (Sl 5 1 xs[i].1 xs[i].2.2.length xs[i].2.1 (bc xs[i].2.2)::_):=h4
 exact h5.rdB xs[i].1 xs[i].2.2 rfl rfl
end
end
section
structure Pg where
 g:Nat→Int
 refs:Nat
def Pg.cells (p:Pg):List Value:=ints .i32 8 p.g++[.int .i64 p.refs]
def pgc (ps:List Pg):List Value:=rows Pg.cells ps
def pg0:Pg:=⟨λ_=>0,0⟩
def pg1:Pg:=⟨λ_=>0,1⟩
theorem Pg.len (p:Pg):p.cells.length=9:=by simp[Pg.cells,ints_len]
theorem pgc_len (ps:List Pg):(pgc ps).length=ps.length*9:=rows_len Pg.len ps
theorem Pg.one (p:Pg):∀ v∈p.cells,v.oneCell'=true:=by
 intro v hv
 rcases List.mem_append.1 hv with h | h
 · exact ints_one v h
 · simp at h;subst h;rfl
theorem pgc_ref {ps:List Pg}{i:Nat}(h:i<ps.length):(pgc ps)[i*9+8]?=some (.int .i64 ps[i].refs):=rows_get Pg.len ps h (by simp[Pg.cells,ints_len])
theorem pgc_at {ps:List Pg}{i k:Nat}(h:i<ps.length)(hk:k<8):(pgc ps)[i*9+k]?=some (.int .i32 (ps[i].g k)):=rows_get Pg.len ps h (by
 rw[Pg.cells,List.getElem?_append_left (by rw[ints_len];exact hk),ints_get _ hk])
theorem pgc_setref {ps:List Pg}{i r:Nat}(h:i<ps.length):(pgc ps).set (i*9+8) (.int .i64 r)=pgc (ps.set i ⟨ps[i].g,r⟩):=rows_set1 Pg.len ps _ h (by decide) (by
 rw[Pg.cells,List.set_append_right _ _ (by rw[ints_len];exact Nat.le_refl _),ints_len];rfl)
theorem pgc_setat {ps:List Pg}{i k:Nat}{v:Int}(h:i<ps.length)(hk:k<8):(pgc ps).set (i*9+k) (.int .i32 v)=pgc (ps.set i ⟨λj=>if j=k then v else ps[i].g j,ps[i].refs⟩):=rows_set1 Pg.len ps _ h (by omega) (by
 rw[Pg.cells,List.set_append_left _ _ (by rw[ints_len];exact hk),ints_set];rfl)
theorem pgc_setpage {ps:List Pg}{i:Nat}(p:Pg)(h:i<ps.length):splice (pgc ps) (i*9) p.cells=pgc (ps.set i p):=rows_set Pg.len ps p h
theorem pgc_cells {ps:List Pg}{i:Nat}(h:i<ps.length):((pgc ps).drop (i*9)).take 8=ints .i32 8 ps[i].g:=by
 have:=rows_sub (k:=0) (m:=8) Pg.len ps h (by decide)
 simp only[Nat.add_zero,List.drop_zero]at this
 rw[pgc,this,Pg.cells,List.take_left' (ints_len _ _ _)]
theorem pgc_setcells {ps:List Pg}{i:Nat}{g:Nat→Int}(h:i<ps.length):splice (pgc ps) (i*9) (ints .i32 8 g)=pgc (ps.set i ⟨g,ps[i].refs⟩):=by
 have:=splice_at (k:=0) (vs:=ints .i32 8 g) Pg.len ps ⟨g,ps[i].refs⟩ h (by rw[ints_len];decide) (by
   simp only[splice,Pg.cells,List.take_zero,List.nil_append,ints_len,Nat.zero_add]
   rw[List.drop_left' (ints_len _ _ _)])
 rw[Nat.add_zero]at this;exact this
def Room (q b:Nat)(ps:List Pg):SP:=λh=>(ps.length≤200∧∀ p∈ps,p.refs<4611686018427387904)∧sepL [blk q 224 [.slice (some ⟨b,0,none⟩) ps.length ps.length],blk b 227 (pgc ps)] h
theorem Room.open {W w:World}{L:List SP}{q b:Nat}{ps:List Pg}(hs:St W w (Room q b ps::L)):(ps.length≤200∧∀ p∈ps,p.refs<4611686018427387904) ∧
   St W w (blk q 224 [.slice (some ⟨b,0,none⟩) ps.length ps.length]::blk b 227 (pgc ps)::L) :=
 ⟨hs.tell λ_ h=>h.1,hs.open λ_ h=>h.2⟩
theorem Room.close {W w:World}{L L' R:List SP}{q b n:Nat}{ps:List Pg}(hs:St W w L)(hn:ps.length=n)(h:ps.length≤200∧∀ p∈ps,p.refs<4611686018427387904)
   [k:Arr L (blk q 224 [.slice (some ⟨b,0,none⟩) n n]::blk b 227 (pgc ps)::L') R]:St W w (Room q b ps::L'):=by
 subst hn
 exact St.shut (M:=[_,_]) (hs.sub (M:=blk q 224 [.slice (some ⟨b,0,none⟩) ps.length ps.length]::blk b 227 (pgc ps)::L')) (λ_ x=>⟨h,x⟩)
theorem made9 (n:Nat):(madeCells (Value.cells (.agg #[.int .i32 0,.int .i32 0,.int .i32 0,.int .i32 0,.int .i32 0,.int .i32 0,.int .i32 0,.int .i32 0,.int .i64 0])) (n*9)).toList=pgc (List.replicate n pg0):=by
 apply List.ext_getElem?
 intro i
 by_cases hi:i<n*9
 · obtain⟨j,k,hk,rfl⟩:∃ j k,k<9∧i=j*9+k:=⟨i/9,i%9,Nat.mod_lt _ (by decide),by omega⟩
   have hj:j<(List.replicate n pg0).length:=by simp;omega
   have hv:(Pg.cells pg0)[k]?=some ((Pg.cells pg0)[k]'(by rw[Pg.len];exact hk)):=List.getElem?_eq_getElem _
   rw[pgc,rows_get Pg.len _ hj (by rw[List.getElem_replicate];exact hv)]
   simp only[madeCells,Value.cells,Array.toList_map,List.getElem?_map]
   rw[Array.toList_range,List.getElem?_range hi]
   have h1:(j*9+k)%9=k:=by omega
   simp only[Option.map_some,List.size_toArray,List.length_cons,List.length_nil,Nat.reduceAdd,h1,Option.some.injEq]
   rcases k with _ | _ | _ | _ | _ | _ | _ | _ | _ | k <;> first | rfl | omega
 · rw[List.getElem?_eq_none,List.getElem?_eq_none]
   · rw[pgc_len];simp;omega
   · simp[madeCells];omega
theorem page_new {W w:World}{L:List SP}{n:Nat}(hs:St W w L)(hn:n≤200) :
   Calls Tryz.prog 124 #[.int .i64 n] w λe w'=>∃ q b,e=.returned (pt q)∧St W w' (Room q b (List.replicate n pg0)::L):=by
 refine EN Tryz.func124 Tryz.ntmps124 rfl rfl λa ha=>?_
 refine RN 6 ha hs λa ha=>?_
 rw[show min (max (n:Int) 0) 200=(n:Int) from by omega]at ha
 refine st_makeSlice ha rfl hs Tryz.underlying222 Ty.t227 rfl (by omega) (by omega) λb6 a w ha hs ho=>?_
 clear ho
 rw[made9]at hs
 refine BX 1 ha hs λb8 a w ha hs=>?_
 refine RT 1 ha hs ?_
 refine⟨b8,b6,rfl,(Room.close (n:=_) hs List.length_replicate ⟨by simp;exact hn,?_⟩)⟩
 intro p hp
 rw[(List.mem_replicate.1 hp).2];decide
section
variable {W w:World}{L:List SP}{q b i:Nat}{ps:List Pg}
theorem page_at (hs:St W w (Room q b ps::L))(hi:i<ps.length)(hr:0<ps[i].refs) :
   Calls Tryz.prog 122 #[pt q,.int .i64 ((i:Int)+1)] w λe w'=>e=.returned (.pointer (some ⟨b,i*9,none⟩))∧St W w' (Room q b ps::L):=by
 obtain⟨hp,hs⟩:=Room.open hs
 refine EN Tryz.func122 Tryz.ntmps122 rfl rfl λa ha=>?_
 refine RN 7 ha hs λa ha=>?_
 replace ha:=ha.isF 7
 refine RN 4 ha hs λa ha=>?_
 rw[decide_eq_false (by omega)]at ha
 refine RN 9 ha hs λa ha=>?_
 rw[decide_eq_false (by omega)]at ha
 refine RN 6 ha hs λa ha=>?_
 rw[show (i:Int)+1-1=(i:Int) from by omega]at ha
 refine RN 2 ha hs λa ha=>?_
 refine st_set ha (wgT ha rfl (s:=20)) (ld1 ha (hs.rd1 (pgc_ref hi))) rfl λa ha=>?_
 refine RN 2 ha hs λa ha=>?_
 rw[decide_eq_false (by omega)]at ha
 refine RN 8 ha hs λa ha=>?_
 rw[show (i:Int)+1-1=(i:Int) from by omega]at ha
 refine RT 2 ha hs ?_
 exact⟨rfl,(Room.close (n:=_) hs rfl hp)⟩
theorem St.pgRd {R:List SP}{e:Nat}(hs:St W w L)[k:Blk L b e (pgc ps) R](hi:i<ps.length):Rd w b (i*9) (ints .i32 8 ps[i].g):=by
 rw[← pgc_cells hi];exact hs.rdN 8
theorem St.pgRd9 {R:List SP}{e:Nat}(hs:St W w L)[k:Blk L b e (pgc ps) R](hi:i<ps.length):Rd w b (i*9) ps[i].cells:=by
 rw[← rows_at Pg.len ps i hi];exact hs.rdN 9
theorem page_refs (hs:St W w (Room q b ps::L))(hi:i<ps.length)(hr:0<ps[i].refs) :
   Calls Tryz.prog 86 #[pt q,.int .i64 ((i:Int)+1)] w λe w'=>e=.returned (.int .i64 ps[i].refs)∧St W w' (Room q b ps::L):=by
 refine EN Tryz.func86 Tryz.ntmps86 rfl rfl λa ha=>?_
 refine CL 5 ha hs (page_at hs hi hr) λa w ha hs=>?_
 refine RN 5 ha hs λa ha=>?_
 replace ha:=ha.isF 10
 refine RN 2 ha hs λa ha=>?_
 obtain⟨hp,hs⟩:=Room.open hs
 refine RN 3 ha hs λa ha=>?_
 refine SS ha (ld1 ha (hs.rd1 (pgc_ref hi))) λa ha=>?_
 refine RT 1 ha hs ?_
 exact⟨rfl,(Room.close (n:=_) hs rfl hp)⟩
theorem refsSet {ps:List Pg}{i r:Nat}{g:Nat→Int}(hp:ps.length≤200∧∀ p∈ps,p.refs<4611686018427387904)(hr:r<4611686018427387904) :
   (ps.set i ⟨g,r⟩).length≤200∧∀ p∈ps.set i ⟨g,r⟩,p.refs<4611686018427387904:=by
 refine⟨by rw[List.length_set];exact hp.1,λp h=>?_⟩
 rcases List.mem_or_eq_of_mem_set h with h | h
 · exact hp.2 p h
 · rw[h];exact hr
theorem page_hold (hs:St W w (Room q b ps::L))(hi:i<ps.length)(hr:0<ps[i].refs)(hb:ps[i].refs+1<4611686018427387904) :
   Calls Tryz.prog 208 #[pt q,.int .i64 ((i:Int)+1)] w λe w'=>e=.returned (.bool true)∧St W w' (Room q b (ps.set i ⟨ps[i].g,ps[i].refs+1⟩)::L):=by
 refine EN Tryz.func208 Tryz.ntmps208 rfl rfl λa ha=>?_
 refine CL 5 ha hs (page_at hs hi hr) λa w ha hs=>?_
 refine RN 5 ha hs λa ha=>?_
 replace ha:=ha.isT 10
 refine RN 1 ha hs λa ha=>?_
 obtain⟨hp,hs⟩:=Room.open hs
 refine RN 3 ha hs λa ha=>?_
 refine SS ha (ld1 ha (hs.rd1 (pgc_ref hi))) λa ha=>?_
 refine ST 3 ha hs (λa w ha hs=>?_) (hlt:=(by rw[pgc_len];omega))
 rw[show ((ps[i].refs:Int)+1)=((ps[i].refs+1:Nat):Int) from rfl,pgc_setref hi]at hs
 refine RT 4 ha hs ?_
 exact⟨rfl,(Room.close (n:=ps.length) hs List.length_set (refsSet hp hb))⟩
theorem page_drop (hs:St W w (Room q b ps::L))(hi:i<ps.length)(hr:0<ps[i].refs) :
   Calls Tryz.prog 213 #[pt q,.int .i64 ((i:Int)+1)] w λe w'=>e=.returned (.bool true)∧St W w' (Room q b (ps.set i ⟨ps[i].g,ps[i].refs-1⟩)::L):=by
 refine EN Tryz.func213 Tryz.ntmps213 rfl rfl λa ha=>?_
 refine CL 5 ha hs (page_at hs hi hr) λa w ha hs=>?_
 refine RN 5 ha hs λa ha=>?_
 replace ha:=ha.isT 10
 refine RN 1 ha hs λa ha=>?_
 obtain⟨hp,hs⟩:=Room.open hs
 have hb:=hp.2 _ (List.getElem_mem hi)
 refine RN 3 ha hs λa ha=>?_
 refine SS ha (ld1 ha (hs.rd1 (pgc_ref hi))) λa ha=>?_
 refine ST 3 ha hs (λa w ha hs=>?_) (hlt:=(by rw[pgc_len];omega))
 rw[show ((ps[i].refs:Int)-1)=((ps[i].refs-1:Nat):Int) from by omega,pgc_setref hi]at hs
 refine RT 4 ha hs ?_
 exact⟨rfl,(Room.close (n:=ps.length) hs List.length_set (refsSet hp (by omega)))⟩
theorem page_get {k:Nat}(hs:St W w (Room q b ps::L))(hi:i<ps.length)(hr:0<ps[i].refs)(hk:k<8) :
   Calls Tryz.prog 323 #[pt q,.int .i64 ((i:Int)+1),.int .i64 k] w λe w'=>e=.returned (.tuple #[.int .i32 (ps[i].g k),.bool true])∧St W w' (Room q b ps::L):=by
 refine EN Tryz.func323 Tryz.ntmps323 rfl rfl λa ha=>?_
 refine CL 6 ha hs (page_at hs hi hr) λa w ha hs=>?_
 refine RN 6 ha hs λa ha=>?_
 replace ha:=ha.isF 14
 refine RN 4 ha hs λa ha=>?_
 rw[decide_eq_false (by omega)]at ha
 refine RN 3 ha hs λa ha=>?_
 rw[decide_eq_false (by omega)]at ha
 refine RN 2 ha hs λa ha=>?_
 obtain⟨hp,hs⟩:=Room.open hs
 refine RN 5 ha hs λa ha=>?_
 refine SS ha (ld1 ha (hs.rd1 (pgc_at hi hk))) λa ha=>?_
 refine RT 2 ha hs ?_
 exact⟨rfl,(Room.close (n:=_) hs rfl hp)⟩
theorem page_set {k:Nat}{v:Int}(hs:St W w (Room q b ps::L))(hi:i<ps.length)(hr:ps[i].refs=1)(hk:k<8) :
   Calls Tryz.prog 128 #[pt q,.int .i64 ((i:Int)+1),.int .i64 k,.int .i32 v] w λe w'=>e=.returned (.bool true)∧St W w' (Room q b (ps.set i ⟨λj=>if j=k then v else ps[i].g j,1⟩)::L):=by
 refine EN Tryz.func128 Tryz.ntmps128 rfl rfl λa ha=>?_
 refine CL 5 ha hs (page_at hs hi (by omega)) λa w ha hs=>?_
 refine RN 6 ha hs λa ha=>?_
 replace ha:=ha.isF 15
 refine RN 4 ha hs λa ha=>?_
 rw[decide_eq_false (by omega)]at ha
 refine RN 4 ha hs λa ha=>?_
 obtain⟨hp,hs⟩:=Room.open hs
 rw[decide_eq_false (by omega)]at ha
 refine RN 3 ha hs λa ha=>?_
 refine st_set ha (wgT ha rfl (s:=23)) (ld1 ha (hs.rd1 (pgc_ref hi))) rfl λa ha=>?_
 refine RN 2 ha hs λa ha=>?_
 rw[decide_eq_false (by omega)]at ha
 refine ST 8 ha hs (λa w ha hs=>?_) (hlt:=(by rw[pgc_len];omega))
 rw[pgc_setat hi hk,hr]at hs
 refine RT 2 ha hs ?_
 exact⟨rfl,(Room.close (n:=ps.length) hs List.length_set (refsSet hp (by omega)))⟩
def freeI (ps:List Pg)(i:Nat):Prop:=∃ h:i<ps.length,ps[i].refs=0∧∀ j,(hj:j<i)→0<ps[j].refs
def noneFree (ps:List Pg):Prop:=∀ j,(h:j<ps.length)→0<ps[j].refs
theorem free_cases (ps:List Pg):noneFree ps∨∃ i,freeI ps i:=by
 have aux:∀ n,(∀ j,(h:j<ps.length)→j<n→0<ps[j].refs)∨∃ i,freeI ps i:=by
   intro n
   induction n with
   | zero=>exact .inl λj _ h=>by omega
   | succ n ih =>
     rcases ih with h | h
     · by_cases hn:n<ps.length
       · by_cases h0:ps[n].refs=0
         · exact .inr ⟨n,hn,h0,λj hj=>h j (by omega) hj⟩
         · refine .inl λj hj hjn=>?_
           rcases Nat.lt_or_ge j n with h1 | h1
           · exact h j hj h1
           · obtain rfl:j=n:=by omega
             omega
       · exact .inl λj hj hjn=>h j hj (by omega)
     · exact .inr h
 rcases aux ps.length with h | h
 · exact .inl λj hj=>h j hj hj
 · exact .inr h
theorem page_take_some (hs:St W w (Room q b ps::L))(hf:freeI ps i) :
   Calls Tryz.prog 126 #[pt q] w λe w'=>e=.returned (.tuple #[.int .i64 ((i:Int)+1),.bool true])∧St W w' (Room q b (ps.set i pg1)::L):=by
 obtain⟨hi,h0,hlow⟩:=hf
 obtain⟨hp,hs⟩:=Room.open hs
 refine EN Tryz.func126 Tryz.ntmps126 rfl rfl λa ha=>?_
 refine RN 7 ha hs λa ha=>?_
 replace ha:=ha.isF 6
 refine RN 9 ha hs λa ha=>?_
 refine wp_loop_ghost (λμ a w=>∃ k:Nat,(μ=i-k∧k≤i)∧Fr a 34 [(0,pt q),(11,.int .i64 ps.length),(12,.int .i64 k)]∧St W w (blk q 224 [.slice (some ⟨b,0,none⟩) ps.length ps.length]::blk b 227 (pgc ps)::L)) (i) (⟨0,⟨by simp,by simp⟩,ha.keep [0,11,12],hs.sub⟩) ?_
 clear ha hs
 rintro μ a w ⟨k,⟨rfl,hk⟩,ha,hs⟩
 refine RN 3 ha hs λa ha=>?_
 rw[decide_eq_true (by omega)]at ha
 refine RN 13 ha hs λa ha=>?_
 refine SS ha (ld1 ha (hs.rd1 (pgc_ref (by omega)))) λa ha=>?_
 refine IF 1 ha hs (λhc2 a ha=>?_) λhc2 a ha=>?_
 ·
  obtain rfl : k = i := by
      rcases Nat.lt_or_ge k i with h | h
      · have:=hlow k h;omega
      · omega
  refine RN 8 ha hs λa ha=>?_
  refine st_storeN ha rfl hs Ty.t227 (by simp[Value.oneCell']) (by rw[pgc_len];simp;omega) λa w ha hs=>?_
  replace hs:=hs.bring b
  change St W w (blk b 227 (splice (pgc ps) (k*9) pg1.cells)::_) at hs
  rw[pgc_setpage pg1 hi]at hs
  refine RT 5 ha hs ?_
  exact⟨rfl,(Room.close (n:=ps.length) hs List.length_set (refsSet (g:=λ_=>0) (r:=1) hp (by omega)))⟩
 have hki : k < i := by
     rcases Nat.lt_or_ge k i with h | h
     · exact h
     · obtain rfl:k=i:=by omega
       omega
 refine RN 2 ha hs λa ha=>?_
 exact⟨i-(k+1),by omega,k+1,⟨rfl,by omega⟩,ha.keep [0,11,12],hs.sub⟩
theorem page_take_none (hs:St W w (Room q b ps::L))(hf:noneFree ps) :
   Calls Tryz.prog 126 #[pt q] w λe w'=>e=.returned (.tuple #[.int .i64 0,.bool false])∧St W w' (Room q b ps::L):=by
 obtain⟨hp,hs⟩:=Room.open hs
 refine EN Tryz.func126 Tryz.ntmps126 rfl rfl λa ha=>?_
 refine RN 7 ha hs λa ha=>?_
 replace ha:=ha.isF 6
 refine RN 9 ha hs λa ha=>?_
 refine wp_loop_ghost (λμ a w=>∃ k:Nat,(μ=ps.length-k∧k≤ps.length)∧Fr a 34 [(0,pt q),(11,.int .i64 ps.length),(12,.int .i64 k)]∧St W w (blk q 224 [.slice (some ⟨b,0,none⟩) ps.length ps.length]::blk b 227 (pgc ps)::L)) (ps.length) (⟨0,⟨by simp,by simp⟩,ha.keep [0,11,12],hs.sub⟩) ?_
 clear ha hs
 rintro μ a w ⟨k,⟨rfl,hk⟩,ha,hs⟩
 refine IF 3 ha hs (λhc1 a ha=>?_) λhc1 a ha=>?_
 ·
  refine RN 12 ha hs λa ha=>?_
  have hk2:=hf k (by omega)
  refine SS ha (ld1 ha (hs.rd1 (pgc_ref (by omega)))) λa ha=>?_
  refine RN 1 ha hs λa ha=>?_
  rw[decide_eq_false (by omega)]at ha
  refine RN 3 ha hs λa ha=>?_
  exact⟨ps.length-(k+1),by omega,k+1,⟨rfl,by omega⟩,ha.keep [0,11,12],hs.sub⟩
 refine RT 3 ha hs ?_
 exact⟨rfl,(Room.close (n:=_) hs rfl hp)⟩
theorem page_copy_none (hs:St W w (Room q b ps::L))(hi:i<ps.length)(hr:0<ps[i].refs)(hf:noneFree ps) :
   Calls Tryz.prog 347 #[pt q,.int .i64 ((i:Int)+1)] w λe w'=>e=.returned (.tuple #[.int .i64 0,.bool false])∧St W w' (Room q b ps::L):=by
 refine EN Tryz.func347 Tryz.ntmps347 rfl rfl λa ha=>?_
 refine CL 6 ha hs (page_at hs hi hr) λa w ha hs=>?_
 refine RN 5 ha hs λa ha=>?_
 replace ha:=ha.isF 13
 refine CL 3 ha hs (page_take_none hs hf) λa w ha hs=>?_
 refine RN 8 ha hs λa ha=>?_
 replace ha:=ha.isF 19
 refine RT 6 ha hs ?_
 exact⟨rfl,hs⟩
theorem page_copy_some {k:Nat}(hs:St W w (Room q b ps::L))(hi:i<ps.length)(hr:0<ps[i].refs)(hf:freeI ps k) :
   Calls Tryz.prog 347 #[pt q,.int .i64 ((i:Int)+1)] w λe w'=>e=.returned (.tuple #[.int .i64 ((k:Int)+1),.bool true])∧St W w' (Room q b (ps.set k ⟨ps[i].g,1⟩)::L):=by
 have hk:=hf.1
 have hne:k≠i:=by
   rintro rfl
   obtain⟨_,h,_⟩:=hf
   omega
 have hkl:k<(ps.set k pg1).length:=by rw[List.length_set];exact hk
 have hil:i<(ps.set k pg1).length:=by rw[List.length_set];exact hi
 have e1:(ps.set k pg1)[k]=pg1:=by rw[List.getElem_set_self]
 have e2:(ps.set k pg1)[i]=ps[i]:=by rw[List.getElem_set_ne hne]
 refine EN Tryz.func347 Tryz.ntmps347 rfl rfl λa ha=>?_
 refine CL 6 ha hs (page_at hs hi hr) λa w ha hs=>?_
 refine RN 5 ha hs λa ha=>?_
 replace ha:=ha.isF 13
 refine CL 3 ha hs (page_take_some hs hf) λa w ha hs=>?_
 refine RN 8 ha hs λa ha=>?_
 replace ha:=ha.isT 19
 refine DWC 1 (λw0 w'=>Rd w' b (i*9) (ints .i32 8 ps[i].g)) [2] [0,1,3,4,5,3006,1002,7,8,1009] ha hs λa w ha hs hH=>?_
 have hC : Rd w b (i * 9) (ints .i32 8 ps[i].g) := by
     have:=St.pgRd (b:=b) (e:=227) (Room.open hs).2 hil
     rwa [e2]at this
 refine RH 5 ha hs hH hC λa ha=>?_
 refine QH ha (λw hc=>ex_loadN ha Tryz.underlying225 rfl Ty.t225 (hc)) hC λa ha=>?_
 refine RH 0 ha hs hH hC λa ha=>?_
 refine CL 0 ha hs (page_at hs hkl (by rw[e1];decide)) λa w ha hs=>?_
 replace hC : (fun w' => Rd w' b (i * 9) (ints .i32 8 ps[i].g)) w := by
     have:=St.pgRd (b:=b) (e:=227) (Room.open hs).2 hil
     rwa [e2]at this
 refine RH 2 ha hs hH hC λa ha=>?_
 obtain⟨hp,hs⟩:=Room.open hs
 refine st_storeN ha rfl hs Ty.t225 ints_one (by rw[pgc_len,ints_len];omega) λa w ha hs=>?_
 rw[pgc_setcells hkl,List.set_set,e1,show pg1.refs=1 from rfl]at hs
 refine RT 5 ha hs ?_
 exact⟨rfl,(Room.close (n:=(ps.set k pg1).length) hs (by rw[List.length_set,List.length_set]) (by have:=refsSet (g:=ps[i].g) (r:=1) (i:=k) hp (by decide);rwa [List.set_set]at this))⟩
def usedN (ps:List Pg):Nat:=ps.countP λp=>decide (0<p.refs)
theorem used_le (ps:List Pg):usedN ps≤ps.length:=List.countP_le_length
theorem used_succ {ps:List Pg}{k:Nat}(h:k<ps.length):usedN (ps.take (k+1))=usedN (ps.take k)+if 0<ps[k].refs then 1 else 0:=by
 rw[usedN,List.take_succ_eq_append_getElem h,List.countP_append,usedN,List.countP_singleton]
 by_cases h:0<ps[k].refs <;> simp[h]
theorem page_used (hs:St W w (Room q b ps::L)) :
   Calls Tryz.prog 84 #[pt q] w λe w'=>e=.returned (.int .i64 (usedN ps))∧St W w' (Room q b ps::L):=by
 obtain⟨hp,hs⟩:=Room.open hs
 refine EN Tryz.func84 Tryz.ntmps84 rfl rfl λa ha=>?_
 refine RN 6 ha hs λa ha=>?_
 replace ha:=ha.isF 7
 refine RN 11 ha hs λa ha=>?_
 refine wp_loop_ghost (λμ a w=>∃ k:Nat,(μ=ps.length-k∧k≤ps.length)∧Fr a 24 [(3,.int .i64 (usedN (ps.take k))),(11,.slice (some ⟨b,0,none⟩) ps.length ps.length),(12,.int .i64 ps.length),(13,.int .i64 k)]∧St W w (blk q 224 [.slice (some ⟨b,0,none⟩) ps.length ps.length]::blk b 227 (pgc ps)::L)) (ps.length) (⟨0,⟨by simp,by simp⟩,ha.keep [3,11,12,13],hs.sub⟩) ?_
 clear ha hs
 rintro μ a w ⟨k,⟨rfl,hk⟩,ha,hs⟩
 have hul:=used_le (ps.take k)
 rw[List.length_take]at hul
 refine IF 3 ha hs (λhc1 a ha=>?_) λhc1 a ha=>?_
 ·
  have hk3:k<ps.length:=by omega
  have hul2:=used_succ hk3
  refine RN 3 ha hs λa ha=>?_
  refine SS ha (ex_loadN ha Tryz.underlying227 rfl Ty.t227 (hs.pgRd9 hk3)) λa ha=>?_
  refine AL 0 ha hs λb5 a w ha hs=>?_
  refine RN 0 ha hs λa ha=>?_
  refine st_storeN ha rfl hs Ty.t227 (Pg.one _) (by rw[Pg.len];exact Nat.le_refl _) λa w ha hs=>?_
  rw[show splice _ 0 ps[k].cells=ps[k].cells from by simp[splice,Pg.len]]at hs
  refine RN 2 ha hs λa ha=>?_
  refine SS ha (ld1 ha (hs.rd1 (show ps[k].cells[8]?=some (.int .i64 ps[k].refs) from by simp[Pg.cells,ints_len]))) λa ha=>?_
  refine IF 1 ha hs (λhc2 a ha=>?_) λhc2 a ha=>?_
  ·
   rw[if_pos (by omega)]at hul2
   refine RN 5 ha hs λa ha=>?_
   exact⟨ps.length-(k+1),by omega,k+1,⟨rfl,by omega⟩,by rw[hul2];exact ha.keep [3,11,12,13],hs.sub⟩
  rw[if_neg (by omega)]at hul2
  refine RN 2 ha hs λa ha=>?_
  exact⟨ps.length-(k+1),by omega,k+1,⟨rfl,by omega⟩,by rw[hul2];exact ha.keep [3,11,12,13],hs.sub⟩
 refine RT 3 ha hs ?_
 obtain rfl:k=ps.length:=by omega
 rw[List.take_length]
 exact⟨rfl,(Room.close (n:=_) hs rfl hp)⟩
theorem page_free (hs:St W w (Room q b ps::L)) :
   Calls Tryz.prog 166 #[pt q] w λe w'=>e=.returned (.int .i64 ((ps.length-usedN ps:Nat):Int))∧St W w' (Room q b ps::L):=by
 have hul:=used_le ps
 have hp:=(Room.open hs).1
 refine EN Tryz.func166 Tryz.ntmps166 rfl rfl λa ha=>?_
 refine RN 6 ha hs λa ha=>?_
 replace ha:=ha.isF 4
 refine DWC 2 (λw0 w'=>w'.cell? ⟨q,0,none⟩=some (.slice (some ⟨b,0,none⟩) ps.length ps.length)) [6] [0,1,2,5,3003,4,1006,7,8] ha hs λa w ha hs hH=>?_
 have hC:=hH.at w ((Room.open hs).2.rd1 rfl)
 refine RH 4 ha hs hH hC λa ha=>?_
 refine QH ha (λw hc=>ld1 ha (hc)) hC λa ha=>?_
 refine RH 1 ha hs hH hC λa ha=>?_
 refine CL 0 ha hs (page_used hs) λa w ha hs=>?_
 replace hC:=hH.at w ((Room.open hs).2.rd1 rfl)
 refine RH 2 ha hs hH hC λa ha=>?_
 refine RT 0 ha hs ?_
 exact⟨by rw[show ((ps.length-usedN ps:Nat):Int)=(ps.length:Int)-(usedN ps:Int) from by omega],hs⟩
end
end
section
def MapIs (es:Array MapEntry)(clock:Nat)(kvs:List (Int×Value)):Prop :=
 es.toList.map (λe=>(e.key,e.val))=kvs.map (λp=>(Value.int .i64 p.1,p.2))∧MapKept.Stamped es clock∧∀ p∈kvs,(Lit.int .i64 p.1).wf=true
def mp (b:Nat)(kvs:List (Int×Value)):SP:=λh=>∃ es clock,h b=some (.map es clock)∧MapIs es clock kvs
def findP:List (Int×Value)→Int→Nat→Option (Nat×Value)
 | [],_,_=>none
 | p::r,k,i=>if p.1=k then some (i,p.2) else findP r k (i+1)
theorem findP_none {kvs:List (Int×Value)}{k:Int}(h:∀ p∈kvs,p.1≠k):∀ i,findP kvs k i=none:=by
 induction kvs with
 | nil=>intro i;rfl
 | cons p r ih =>
   intro i
   rw[findP,if_neg (h p List.mem_cons_self)]
   exact ih (λq hq=>h q (List.mem_cons_of_mem _ hq)) _
theorem findP_some {kvs:List (Int×Value)}{k:Int}{v:Value}:∀ {j:Nat} (i:Nat),kvs[j]?=some (k,v)→(∀ j',j'<j→∀ p,kvs[j']?=some p→p.1≠k)→findP kvs k i=some (i+j,v):=by
 induction kvs with
 | nil=>intro j i h;simp at h
 | cons p r ih =>
   intro j i h hl
   cases j with
   | zero=>simp at h;subst h;simp[findP]
   | succ j =>
     rw[findP,if_neg (hl 0 (by omega) p rfl),ih (i+1) (by simpa using h) (λj' hj q hq=>hl (j'+1) (by omega) q (by simpa using hq))]
     rw[show i+1+j=i+(j+1) from by omega]
theorem findNow_is (k:Int):∀ (es:List MapEntry) (kvs:List (Int×Value)) (i:Nat),es.map (λe=>(e.key,e.val))=kvs.map (λp=>(Value.int .i64 p.1,p.2))→Instr.findNow (.int .i64) (.int .i64 k) es i=some (findP kvs k i)
 | [],[],i,_=>rfl
 | [],_::_,_,h=>by simp at h
 | _::_,[],_,h=>by simp at h
 | e::es,p::kvs,i,h=>by
   simp only[List.map_cons,List.cons.injEq,Prod.mk.injEq]at h
   obtain⟨⟨h1,h2⟩,h3⟩:=h
   simp only[Instr.findNow,h1,Instr.sameNow,findP]
   by_cases hk:p.1=k
   · simp[hk,h2]
   · have:(k==p.1)=false:=by simp;exact λe=>hk e.symm
     simp only[this,if_neg hk]
     exact findNow_is k es kvs (i+1) h3
theorem mapErase {α β:Type}(f:α→β)(l:List α)(i:Nat):(l.eraseIdx i).map f=(l.map f).eraseIdx i:=by
 simp only[List.eraseIdx_eq_take_drop_succ,List.map_append,List.map_take,List.map_drop]
section
variable {W w:World}{L:List SP}{b:Nat}{kvs:List (Int×Value)}
theorem St.mpHas (hs:St W w (mp b kvs::L)):∃ es clock,MapIs es clock kvs∧St W w (pts b (.map es clock)::L):=by
 obtain⟨⟨es,clock⟩,h1,h2⟩:=hs.exi (ι:=Array MapEntry×Nat) (p:=λi=>MapIs i.1 i.2 kvs) (B:=λi=>pts b (.map i.1 i.2)) (λh ⟨es,clock,h1,h2⟩=>⟨(es,clock),h2,h1⟩)
 exact⟨es,clock,h1,h2⟩
theorem St.mpShut {es:Array MapEntry}{clock:Nat}(hs:St W w (pts b (.map es clock)::L))(h:MapIs es clock kvs):St W w (mp b kvs::L) :=
 St.shut (M:=[_]) hs (λ_ x=>by
   obtain⟨_,_,_,a,_,y,_⟩:=x
   exact⟨es,clock,a _ _ y,h⟩)
theorem MapIs.nil:MapIs #[] 0 []:=⟨rfl,⟨by simp,by simp,by simp⟩,by simp⟩
theorem MapIs.push {es:Array MapEntry}{clock:Nat}{k:Int}{v:Value}(h:MapIs es clock kvs)(hw:(Lit.int .i64 k).wf=true)(hn:∀ p∈kvs,p.1≠k):MapIs (es.push ⟨.int .i64 k,v,clock⟩) (clock+1) (kvs++[(k,v)]):=by
 obtain⟨h1,⟨h2,h3,h4⟩,h5⟩:=h
 refine⟨by simp[h1],⟨λx hx=>?_,?_,?_⟩,λp hp=>?_⟩
 · simp only[Array.toList_push,List.mem_append,List.mem_singleton]at hx
   rcases hx with hx | rfl
   · have:=h2 x hx;omega
   · exact Nat.lt_succ_self _
 · simp only[Array.toList_push,List.map_append,List.map_cons,List.map_nil]
   refine List.nodup_append.2 ⟨h3,by simp,λx hx y hy=>?_⟩
   simp only[List.mem_map]at hx
   obtain⟨e,he,rfl⟩:=hx
   have:=h2 e he
   simp at hy;omega
 · simp only[Array.toList_push,List.map_append,List.map_cons,List.map_nil]
   refine List.nodup_append.2 ⟨h4,by simp,λx hx y hy=>?_⟩
   simp only[List.mem_map]at hx
   obtain⟨e,he,rfl⟩:=hx
   have hm:(e.key,e.val)∈es.toList.map (λe=>(e.key,e.val)):=List.mem_map.2 ⟨e,he,rfl⟩
   rw[h1]at hm
   obtain⟨p,hp,hpe⟩:=List.mem_map.1 hm
   simp only[Prod.mk.injEq]at hpe
   simp at hy
   rw[hy,← hpe.1]
   intro e2
   simp at e2
   exact hn p hp e2
 · rcases List.mem_append.1 hp with h | h
   · exact h5 p h
   · simp at h;subst h;exact hw
theorem MapIs.erase {es:Array MapEntry}{clock:Nat}(h:MapIs es clock kvs)(i:Nat):MapIs (es.eraseIdxIfInBounds i) clock (kvs.eraseIdx i):=by
 obtain⟨h1,⟨h2,h3,h4⟩,h5⟩:=h
 have ht:(es.eraseIdxIfInBounds i).toList=es.toList.eraseIdx i:=by simp[Array.toList_eraseIdxIfInBounds]
 have hm:∀ {β:Type} (f:MapEntry→β),(es.toList.eraseIdx i).map f=(es.toList.map f).eraseIdx i:=λf=>mapErase f _ i
 refine⟨by rw[ht,hm,h1,mapErase],⟨λx hx=>h2 x (List.mem_of_mem_eraseIdx (ht ▸ hx)),?_,?_⟩,λp hp=>h5 p (List.mem_of_mem_eraseIdx hp)⟩
 · rw[ht,hm];exact h3.sublist (List.eraseIdx_sublist _ _)
 · rw[ht,hm];exact h4.sublist (List.eraseIdx_sublist _ _)
end
section
variable {P:Program}{ops:Array Oper}{Q:Exit→Act→World→Prop}{a:Act}{w w' W:World}{K:Act→World→Prop}{n d:Nat}{l:List (Nat×Value)}{v:Value}{L R:List SP}{kvs:List (Int×Value)}
class PickM (L:List SP)(b:Nat)(kvs:outParam (List (Int×Value)))(R:outParam (List SP)):Prop where perm:L.Perm (mp b kvs::R)
instance PickM.head {L b kvs}:PickM (mp b kvs::L) b kvs L:=⟨List.Perm.refl _⟩
instance (priority:=low) PickM.tail {A L b kvs R}[h:PickM L b kvs R]:PickM (A::L) b kvs (A::R):=⟨(List.Perm.cons A h.perm).trans (List.Perm.swap _ _ _)⟩
theorem run_setMap {b:Nat}{es es':Array MapEntry}{c c':Nat}(h:w.heap[b]?=some (.map es c)):(setObj b (.map es' c')).run P w=.ok () (ChangeMaps.setBlock w b (.map es' c')):=by
 simp only[setObj,Sem.run,h]
 rfl
theorem checkKey_n {kt:TypeId}{em:Bool}{k:Int}(hk:P.underlying kt=some (.int .i64))(n:Nat):(Instr.checkKey em (n+1) kt (.int .i64 k)).run P w=.ok () w:=by
 simp only[Instr.checkKey,Sem.run_bind,run_underlying hk,Result.andThen_ok]
 rfl
theorem checkKey_int {kt:TypeId}{em:Bool}{k:Int}(hk:P.underlying kt=some (.int .i64)):(Instr.checkKey em 10000 kt (.int .i64 k)).run P w=.ok () w :=
 checkKey_n hk 9999
theorem findKey_is {es:Array MapEntry}{clock:Nat}{kt:TypeId}{k:Int}(hk:P.underlying kt=some (.int .i64))(h:MapIs es clock kvs):(Instr.findKey kt (.int .i64 k) es.toList).run P w=.ok (findP kvs k 0) w:=by
 simp[Instr.findKey,run_underlying hk,findNow_is k es.toList kvs 0 h.1]
theorem st_makeMap {t ty ps af g}(ha:Fr a n l)(hw:Region.wanted ⟨some d,.makeMap t none,ty,ps,af,g⟩ (yielded ops a.tmps)=true)(hs:St W w L)(hf:okB d n l=true)
   (h:∀ b a' w',Fr a' n ((d,.map (some b))::l)→St W w' (mp b []::L)→Old w w'→K a' w'):StepK P ops Q ⟨some d,.makeMap t none,ty,ps,af,g⟩ K a w:=by
 refine st_set (v:=.map (some w.heap.size)) (w':=w.alloc (.map #[] 0)) ha hw ?_ hf (λa' ha'=>h _ _ _ ha' (St.mpShut (hs.alloc (.map #[] 0)) MapIs.nil) (Old.alloc _ _))
 simp[execOp,Instr.makeMap,newObj,Sem.run]
theorem ex_lookup {x y b t kt et k z sz by' dst ty ps af g}{R:List SP}(ha:Fr a n l)(ht:P.underlying t=some (.map kt et))(hk:P.underlying kt=some (.int .i64))(hi:TI P et z sz by')(hs:St W w L)
   [ev:Ev l x (.map (some b))] [ey:Ev l y (.int .i64 k)] [pk:PickM L b kvs R] (hv:((findP kvs k 0).map (·.2)).getD z=v) :
   (execOp a.eval ⟨dst,.lookup t x y false,ty,ps,af,g⟩).run P w=.ok (.value v) w:=by
 obtain⟨es,clock,h1,h2⟩:=(hs.perm pk.perm).mpHas
 have hg:=MapKept.run_getObj_map (P:=P) h2.has.2
 have h3:(Instr.lookup t (.map (some b)) (.int .i64 k) false).run P w=.ok v w:=by
   simp only[Instr.lookup,Sem.run_bind,run_underlying ht,Result.andThen_ok,hg]
   simp only[Sem.run_pure,Result.andThen_ok,checkKey_int hk,findKey_is hk h1]
   cases hf:findP kvs k 0 with
   | none=>rw[hf]at hv;simp at hv;simp[run_zero hi,hv]
   | some p=>rw[hf]at hv;simp at hv;simp[hv]
 simp[execOp,ev.ev a n ha,ey.ev a n ha,h3]
theorem st_mapUpdate {x y u b t kt et k ty ps af g}{R:List SP}(ha:Fr a n l)(hw:Region.wanted ⟨none,.mapUpdate t x y u,ty,ps,af,g⟩ (yielded ops a.tmps)=true)(hs:St W w L)
   (ht:P.underlying t=some (.map kt et)) (hk:P.underlying kt=some (.int .i64)) [ev:Ev l x (.map (some b))] [ey:Ev l y (.int .i64 k)] [eu:Ev l u v] [pk:PickM L b kvs R]
   (hwf:(Lit.int .i64 k).wf=true) (hn:∀ p∈kvs,p.1≠k)
   (h:∀ a' w',Fr a' n l→St W w' (mp b (kvs++[(k,v)])::R)→K a' w'):StepK P ops Q ⟨none,.mapUpdate t x y u,ty,ps,af,g⟩ K a w:=by
 obtain⟨es,clock,h1,h2⟩:=(hs.perm pk.perm).mpHas
 have hg:=MapKept.run_getObj_map (P:=P) h2.has.2
 have hb:b<w.heap.size:=(Array.getElem?_eq_some_iff.1 h2.has.2).1
 have h3:(Instr.mapUpdate t (.map (some b)) (.int .i64 k) v).run P w=.ok () (ChangeMaps.setBlock w b (.map (es.push ⟨.int .i64 k,v,clock⟩) (clock+1))):=by
   simp only[Instr.mapUpdate,Sem.run_bind,run_underlying ht,Result.andThen_ok,hg]
   simp only[Sem.run_pure,Result.andThen_ok,checkKey_int hk,findKey_is hk h1,findP_none hn]
   simp[run_setMap h2.has.2]
 have h4:=h2.upd (o':=.map (es.push ⟨.int .i64 k,v,clock⟩) (clock+1)) (w':=ChangeMaps.setBlock w b (.map (es.push ⟨.int .i64 k,v,clock⟩) (clock+1))) rfl rfl rfl rfl
 refine st_act (w':=ChangeMaps.setBlock w b (.map (es.push ⟨.int .i64 k,v,clock⟩) (clock+1))) ha hw ?_ (λa' ha'=>h a' _ ha' (h4.mpShut (h1.push hwf hn)))
 simp[execOp,ev.ev a n ha,ey.ev a n ha,eu.ev a n ha,h3]
theorem st_mapDelete {x y b t kt et k i ty ps af g}{R:List SP}(ha:Fr a n l)(hw:Region.wanted ⟨none,.call ⟨.builtin .delete,#[x,y],#[t,kt]⟩,ty,ps,af,g⟩ (yielded ops a.tmps)=true)(hs:St W w L)
   (ht:P.underlying t=some (.map kt et)) (hk:P.underlying kt=some (.int .i64)) [ev:Ev l x (.map (some b))] [ey:Ev l y (.int .i64 k)] [pk:PickM L b kvs R] (hi:findP kvs k 0=some (i,v))
   (h:∀ a' w',Fr a' n l→St W w' (mp b (kvs.eraseIdx i)::R)→K a' w'):StepK P ops Q ⟨none,.call ⟨.builtin .delete,#[x,y],#[t,kt]⟩,ty,ps,af,g⟩ K a w:=by
 obtain⟨es,clock,h1,h2⟩:=(hs.perm pk.perm).mpHas
 have hg:=MapKept.run_getObj_map (P:=P) h2.has.2
 have hb:b<w.heap.size:=(Array.getElem?_eq_some_iff.1 h2.has.2).1
 have h3:(Builtin.delete_ #[t,kt] ty #[.map (some b),.int .i64 k]).run P w=.ok (.tuple #[]) (ChangeMaps.setBlock w b (.map (es.eraseIdxIfInBounds i) clock)):=by
   simp only[Builtin.delete_,List.getElem?_toArray,List.getElem?_cons_zero,List.getElem?_cons_succ]
   simp only[Sem.run_bind,run_underlying ht,Result.andThen_ok,hg]
   simp only[Sem.run_pure,Result.andThen_ok,checkKey_int hk,findKey_is hk h1,hi]
   simp[run_setMap h2.has.2]
 have h4:=h2.upd (o':=.map (es.eraseIdxIfInBounds i) clock) (w':=ChangeMaps.setBlock w b (.map (es.eraseIdxIfInBounds i) clock)) rfl rfl rfl rfl
 refine st_none (v:=.tuple #[]) (w':=ChangeMaps.setBlock w b (.map (es.eraseIdxIfInBounds i) clock)) ha hw ?_ (λa' ha'=>h a' _ ha' (h4.mpShut (h1.erase i)))
 simp[execOp,resolve,ev.ev a n ha,ey.ev a n ha,invoke,builtin,h3]
end
end
end Go.Proofs.YteoldcfapaiobaaGreat
