/- Runs: all the steps that need nothing from the proof are found by one search. -/
import Derived.Test.YteoldcfapaiobaaGreatA01Slice
import Derived.Test.YteoldcfapaiobaaGreatA02Row
import Derived.KernelRfl
namespace Go.Proofs.YteoldcfapaiobaaGreat
open Go.RowKit
set_option linter.unusedVariables false
set_option linter.unusedSimpArgs false
set_option maxRecDepth 10000
set_option synthInstance.maxSize 4000
set_option synthInstance.maxHeartbeats 400000
section
class Dst (os:List Oper)(j:Nat)(s:outParam Nat):Prop where h:(os[j]?).bind (·.dst)=some s
instance Dst.zero {s op ty ps af g r}:Dst (⟨some s,op,ty,ps,af,g⟩::r) 0 s:=⟨rfl⟩
instance Dst.succ {o r j s}[h:Dst r j s]:Dst (o::r) (j+1) s:=⟨by rw[List.getElem?_cons_succ];exact h.h⟩
class OpAt (os:List Oper)(j:Nat)(o:outParam Oper):Prop where h:os[j]?=some o
instance OpAt.zero {o r}:OpAt (o::r) 0 o:=⟨rfl⟩
instance OpAt.succ {x r j o}[h:OpAt r j o]:OpAt (x::r) (j+1) o:=⟨by rw[List.getElem?_cons_succ];exact h.h⟩
class GB (v:Value)(b:Bool)(r:outParam Bool):Prop where h:((match v with | .bool c=>Option.some c | _=>none)==Option.some b)=r
instance GB.tt:GB (.bool true) true true:=⟨rfl⟩
instance GB.tf:GB (.bool true) false false:=⟨rfl⟩
instance GB.ft:GB (.bool false) true false:=⟨rfl⟩
instance GB.ff:GB (.bool false) false true:=⟨rfl⟩
instance GB.u {b}:GB undef b false:=⟨rfl⟩
class Gd (os:List Oper)(l:List (Nat×Value))(g:Option (Nat×Bool))(r:outParam Bool):Prop where
 h:∀ {a n},Fr a n l→∀ {dst op ty ps af},Region.wanted ⟨dst,op,ty,ps,af,g⟩ (yielded os.toArray a.tmps)=r
instance Gd.none {os l}:Gd os l none true:=⟨λ_=>rfl⟩
instance Gd.some {os l j b s v r}[d:Dst os j s][k:Get l s v][x:GB v b r]:Gd os l (some (j,b)) r:=⟨λ{a n} ha dst op ty ps af=>by
 have h1:=ha.has _ k.mem
 have h2:(os.toArray[j]?).bind (·.dst)=Option.some s:=by rw[List.getElem?_toArray];exact d.h
 rw[← x.h]
 simp only[Region.wanted,yielded,h2,Option.bind_some,h1]
 cases v <;> rfl⟩
class AndC (p q:Prop)(r:outParam Prop):Prop where h:r→p∧q
instance AndC.l {q}:AndC True q q:=⟨λh=>⟨trivial,h⟩⟩
instance AndC.r {p}:AndC p True p:=⟨λh=>⟨h,trivial⟩⟩
instance (priority:=low) AndC.b {p q}:AndC p q (p∧q):=⟨id⟩
class Nth (cs:List Value)(i:Nat)(v:outParam Value):Prop where h:cs[i]?=some v
instance Nth.zero {v cs}:Nth (v::cs) 0 v:=⟨rfl⟩
instance Nth.succ {c cs i v}[h:Nth cs i v]:Nth (c::cs) (i+1) v:=⟨by rw[List.getElem?_cons_succ];exact h.h⟩
instance Nth.apZ {v xs ys}:Nth ((v::xs)++ys) 0 v:=⟨rfl⟩
class IxOff (o j sz:Nat)(r:outParam Nat):Prop where h:o+j*sz=r
instance (priority:=10) IxOff.any {o j sz}:IxOff o j sz (o+j*sz):=⟨rfl⟩
instance (priority:=20) IxOff.one {o j}:IxOff o j 1 (o+j):=⟨by rw[Nat.mul_one]⟩
instance (priority:=25) IxOff.at0 {o sz}:IxOff o 0 sz (o+0):=⟨by rw[Nat.zero_mul]⟩
instance (priority:=30) IxOff.zero {j sz}:IxOff 0 j sz (j*sz):=⟨Nat.zero_add _⟩
instance (priority:=40) IxOff.both {j}:IxOff 0 j 1 j:=⟨by omega⟩
class Und (P:Program)(t:TypeId)(d:outParam TypeDesc):Prop where h:P.underlying t=some d
theorem Und.of {P:Program}{t:TypeId}{d:TypeDesc}(h:P.underlying t=some d):Und P t d:=⟨h⟩
class OneD (d:TypeDesc)(r:outParam Bool):Prop where h:isOne d=r
instance Ex.ext30 {P:Program} {l x v1 v2 v3} [Ev l x (.tuple #[v1,v2,v3])]:Ex P l (.extract x 0) v1:=⟨λ_ _ ha _ _ _ _ _ _=>ex_extract ha rfl⟩
instance Ex.ext31 {P:Program} {l x v1 v2 v3} [Ev l x (.tuple #[v1,v2,v3])]:Ex P l (.extract x 1) v2:=⟨λ_ _ ha _ _ _ _ _ _=>ex_extract ha rfl⟩
instance Ex.ext32 {P:Program} {l x v1 v2 v3} [Ev l x (.tuple #[v1,v2,v3])]:Ex P l (.extract x 2) v3:=⟨λ_ _ ha _ _ _ _ _ _=>ex_extract ha rfl⟩
instance:OneD .bool true:=⟨rfl⟩
instance:OneD .string true:=⟨rfl⟩
instance {k}:OneD (.int k) true:=⟨rfl⟩
instance {t}:OneD (.pointer t) true:=⟨rfl⟩
instance {t}:OneD (.slice t) true:=⟨rfl⟩
instance {t u}:OneD (.map t u) true:=⟨rfl⟩
instance {p r b}:OneD (.func p r b) true:=⟨rfl⟩
instance {m}:OneD (.interface m) true:=⟨rfl⟩
instance {f}:OneD (.struct f) false:=⟨rfl⟩
instance {m t}:OneD (.array m t) false:=⟨rfl⟩
class NotI (d:TypeDesc):Prop where h:(match d with | .interface _=>false | _=>true)=true
instance {t}:NotI (.pointer t):=⟨rfl⟩
instance {f}:NotI (.struct f):=⟨rfl⟩
class Suc (m:Nat)(k:outParam Nat):Prop where h:m=k+1
instance {k}:Suc (k+1) k:=⟨rfl⟩
class NthF (fs:List Field)(f:Nat)(t k:outParam Nat):Prop where h:∃ fl,fs[f]?=some fl∧fl.type=t∧fl.offset=k
instance NthF.zero {nm t k e tg pp bo r}:NthF (⟨nm,t,k,e,tg,pp,bo⟩::r) 0 t k:=⟨_,rfl,rfl,rfl⟩
instance NthF.succ {x r f t k}[h:NthF r f t k]:NthF (x::r) (f+1) t k:=⟨by rw[List.getElem?_cons_succ];exact h.h⟩
section
variable {P:Program}{t u el k sz by' f:Nat}{d:TypeDesc}{z:Value}{fs:List Field}
instance [h:Und P t (.pointer el)]:UPtr P t:=⟨_,h.h⟩
instance [h:Und P t (.slice el)]:USl P t:=⟨_,h.h⟩
instance [h:Und P t d][g:OneD d true]:UOne P t:=⟨_,h.h,g.h⟩
instance {m:Nat}[h:Und P t (.struct fs.toArray)][g:NthF fs f u k][hi:TI P u z m by'][q:Suc m sz]:UFld P t f k:=by
 obtain⟨fl,h1,h2,h3⟩:=g.h
 rw[q.h]at hi
 exact⟨_,fl,z,sz,by',h.h,by rw[List.getElem?_toArray];exact h1,by rw[h2];exact hi,h3⟩
end
def Lk (L:List SP)(w:World):Prop:=∃ W w0,St W w0 L∧Old w0 w
theorem Lk.of {W w:World}{L:List SP}(hs:St W w L):Lk L w:=⟨W,w,hs,Old.refl _⟩
theorem Lk.nil (w:World):Lk [] w:=⟨w,w,St.start _,Old.refl _⟩
theorem Lk.rd1 {w:World}{L R:List SP}{b e off:Nat}{cs:List Value}{v:Value}(h:Lk L w)[k:Blk L b e cs R](hv:cs[off]?=some v):w.cell? ⟨b,off,none⟩=some v:=by
 obtain⟨W,w0,hs,ho⟩:=h;exact ho.cell (hs.rd1 hv)
theorem Lk.rdN {w:World}{L R:List SP}{b e off:Nat}{cs:List Value}(h:Lk L w)[k:Blk L b e cs R](m:Nat){vs:List Value}[sc:SubC cs off m vs]:Rd w b off vs:=by
 obtain⟨W,w0,hs,ho⟩:=h;exact ho.rd (hs.rdN m)
instance SubC.whole {cs m}[h:LenEq cs m]:SubC cs 0 m cs:=⟨by rw[List.drop_zero,← h.h,List.take_length]⟩
class NilA (ad:Option Addr)(r:outParam Bool):Prop where h:ad.isNone=r
instance NilA.n:NilA none true:=⟨rfl⟩
instance NilA.s {a}:NilA (some a) false:=⟨rfl⟩
instance (priority:=low) NilA.any {ad}:NilA ad ad.isNone:=⟨rfl⟩
theorem ret3 {P:Program}{a:Act}{w:World}{n:Nat}{l:List (Nat×Value)}{fn:Func} {t u x v v2 v3}{X:Ending→World→Prop}(ha:Fr a n l)(hr:fn.results=#[.tmp t,.tmp u,.tmp x])[k:Get l t v][k2:Get l u v2][k3:Get l x v3](h:X (.returned (.tuple #[v,v2,v3])) w):bodyPost P fn X .ret a w:=by
 refine bodyPost_ret ?_ ha.defers h
 have h1:=ha.has _ k.mem
 have h2:=ha.has _ k2.mem
 have h3:=ha.has _ k3.mem
 simp[results,hr,Array.getD_eq_getD_getElem?,h1,h2,h3]
theorem Fr.isT {a:Act}{n:Nat}{l l':List (Nat×Value)}(ha:Fr a n l)(s:Nat){b:Bool}[k:Get l s (.bool b)][e:Del l s l'](h:b=true:=by first | rfl | decide):Fr a n ((s,.bool true)::l') :=
 ha.bool (s:=s) (λ_ h=>h) (λe _=>by rw[h]at e;cases e)
theorem Fr.isF {a:Act}{n:Nat}{l l':List (Nat×Value)}(ha:Fr a n l)(s:Nat){b:Bool}[k:Get l s (.bool b)][e:Del l s l'](h:b=false:=by first | rfl | decide):Fr a n ((s,.bool false)::l') :=
 ha.bool (s:=s) (λe _=>by rw[h]at e;cases e) (λ_ h=>h)
class Sx (P:Program)(L:List SP)(l:List (Nat×Value))(op:Go.Op)(c:outParam Prop)(v:outParam Value):Prop where
 ex:c→∀ {a n w},Fr a n l→Lk L w→∀ {dst ty ps af g},(execOp a.eval ⟨dst,op,ty,ps,af,g⟩).run P w=.ok (.value v) w
section
variable {P:Program}{L R:List SP}{l:List (Nat×Value)}{x y z:Operand}{v u zv:Value}{k k':IntKind}{i j i':Int}{m m' m'' c:Nat}{t t' el sz by' b off r:Nat}{ad:Option Addr}{s:ByteArray}{p q:Bool}{vs ws zs:List Value}
instance (priority:=high) Sx.of {op}[h:Ex P l op v]:Sx P L l op True v:=⟨λ_ _ _ _ ha _ _ _ _ _ _=>h.ex _ _ ha _ _ _ _ _ _⟩
instance Sx.pickT [Ev l x (.bool true)] [Ev l y v]:Sx P L l (.pick x y z) True v:=⟨λ_ _ _ _ ha _ _ _ _ _ _=>ex_pickT ha⟩
instance Sx.pickF [Ev l x (.bool false)] [Ev l z v]:Sx P L l (.pick x y z) True v:=⟨λ_ _ _ _ ha _ _ _ _ _ _=>ex_pickF ha⟩
instance Sx.load {e cs} [Ev l x (.pointer (some ⟨b,off,none⟩))][u:UOne P t] [Blk L b e cs R][n:Nth cs off v]:Sx P L l (.load t x) True v :=
 ⟨λ_ _ _ _ ha hs _ _ _ _ _=>by obtain⟨dd,h1,h2⟩:=u.h;exact ex_load1 ha h1 h2 (hs.rd1 n.h)⟩
instance Sx.loadN {e cs d} [Ev l x (.pointer (some ⟨b,off,none⟩))][u:Und P t d][g:OneD d false][hi:TI P t zv m by'] [Blk L b e cs R] [SubC cs off m vs][k:LenEq vs m]:Sx P L l (.load t x) True (.agg vs.toArray) :=
 ⟨λ_ _ _ _ ha hs _ _ _ _ _=>ex_loadN ha u.h g.h (by rw[k.h];exact hi) (hs.rdN m)⟩
instance Sx.add [Ev l x (.int .i64 i)] [Ev l y (.int .i64 j)]:Sx P L l (.binOp .add t x y t') (-9223372036854775808≤i+j∧i+j≤9223372036854775807) (.int .i64 (i+j)) :=
 ⟨λh _ _ _ ha _ _ _ _ _ _=>ex_addI ha h.1 h.2⟩
instance Sx.sub [Ev l x (.int .i64 i)] [Ev l y (.int .i64 j)]:Sx P L l (.binOp .sub t x y t') (-9223372036854775808≤i-j∧i-j≤9223372036854775807) (.int .i64 (i-j)) :=
 ⟨λh _ _ _ ha _ _ _ _ _ _=>ex_subI ha h.1 h.2⟩
instance Sx.mul [Ev l x (.int .i64 i)] [Ev l y (.int .i64 j)]:Sx P L l (.binOp .mul t x y t') (-9223372036854775808≤i*j∧i*j≤9223372036854775807) (.int .i64 (i*j)) :=
 ⟨λh _ _ _ ha _ _ _ _ _ _=>ex_mulI ha h.1 h.2⟩
instance (priority:=low) Sx.addW [Ev l x (.int k i)] [Ev l y (.int k j)]:Sx P L l (.binOp .add t x y t') (True) (.int k (k.wrap (i+j))):=⟨λ_ _ _ _ ha _ _ _ _ _ _=>ex_add ha⟩
instance (priority:=low) Sx.subW [Ev l x (.int k i)] [Ev l y (.int k j)]:Sx P L l (.binOp .sub t x y t') (True) (.int k (k.wrap (i-j))):=⟨λ_ _ _ _ ha _ _ _ _ _ _=>ex_sub ha⟩
instance (priority:=low) Sx.mulW [Ev l x (.int k i)] [Ev l y (.int k j)]:Sx P L l (.binOp .mul t x y t') (True) (.int k (k.wrap (i*j))):=⟨λ_ _ _ _ ha _ _ _ _ _ _=>ex_mul ha⟩
instance Sx.rem [Ev l x (.int k i)] [Ev l y (.int k j)]:Sx P L l (.binOp .rem t x y t') (j≠0) (.int k (i.tmod j)):=⟨λg _ _ _ ha _ _ _ _ _ _=>ex_rem ha g⟩
instance Sx.or [Ev l x (.int k i)] [Ev l y (.int k j)]:Sx P L l (.binOp .or t x y t') (True) (.int k (k.wrap ((BitVec.ofInt k.bits i ||| BitVec.ofInt k.bits j).toNat))):=⟨λ_ _ _ _ ha _ _ _ _ _ _=>ex_or ha⟩
instance Sx.and [Ev l x (.int k i)] [Ev l y (.int k j)]:Sx P L l (.binOp .and t x y t') (True) (.int k (k.wrap ((BitVec.ofInt k.bits i &&& BitVec.ofInt k.bits j).toNat))):=⟨λ_ _ _ _ ha _ _ _ _ _ _=>ex_and ha⟩
instance (priority:=low) Sx.xor [Ev l x (.int k i)] [Ev l y (.int k j)]:Sx P L l (.binOp .xor t x y t') (True) (.int k (k.wrap ((BitVec.ofInt k.bits i ^^^ BitVec.ofInt k.bits j).toNat))):=⟨λ_ _ _ _ ha _ _ _ _ _ _=>ex_xor ha⟩
instance Sx.xor8 {i j:UInt8} [Ev l x (.int .u8 (i.toNat:Int))] [Ev l y (.int .u8 (j.toNat:Int))]:Sx P L l (.binOp .xor t x y t') True (.int .u8 ((i ^^^ j).toNat:Int)):=⟨λ_ _ _ _ ha _ _ _ _ _ _=>ex_xor8 ha⟩
instance Sx.min {ty'} [Ev l x (.int k i)] [Ev l y (.int k j)]:Sx P L l (.call ⟨.builtin .min,#[x,y],ty'⟩) (True) (.int k (min i j)):=⟨λ_ _ _ _ ha _ _ _ _ _ _=>ex_min ha⟩
instance Sx.max {ty'} [Ev l x (.int k i)] [Ev l y (.int k j)]:Sx P L l (.call ⟨.builtin .max,#[x,y],ty'⟩) (True) (.int k (max i j)):=⟨λ_ _ _ _ ha _ _ _ _ _ _=>ex_max ha⟩
instance Sx.shl [Ev l x (.int k i)] [Ev l y (.int k' j)] [NatOf j m]:Sx P L l (.binOp .shl t x y t') (m≤k.bits) (.int k (k.wrap (i*2 ^ m))):=⟨λg _ _ _ ha _ _ _ _ _ _=>ex_shl ha g⟩
instance Sx.shr [Ev l x (.int k i)] [Ev l y (.int k' j)] [NatOf j m]:Sx P L l (.binOp .shr t x y t') (m≤k.bits) (.int k (i.fdiv (2 ^ m))):=⟨λg _ _ _ ha _ _ _ _ _ _=>ex_shr ha g⟩
instance Sx.com [Ev l x (.int k i)]:Sx P L l (.unOp .xor t x) True (.int k (k.wrap ((BitVec.ofInt k.bits (if k.signed then -1 else k.max) ^^^ BitVec.ofInt k.bits i).toNat))):=⟨λ_ _ _ _ ha _ _ _ _ _ _=>ex_com ha⟩
instance Sx.neg [Ev l x (.int k i)]:Sx P L l (.unOp .neg t x) True (.int k (k.wrap (0-i))):=⟨λ_ _ _ _ ha _ _ _ _ _ _=>ex_neg ha⟩
instance Sx.eqnilS [h:Und P t (.slice el)] [Ev l x (.slice ad m c)][q:NilA ad p]:Sx P L l (.binOp .eql t x (.const (.slice none 0 0)) t') True (.bool p):=⟨λ_ _ _ _ ha _ _ _ _ _ _=>by rw[← q.h];exact ex_eqnilS ha h.h⟩
instance Sx.lenS [h:Und P t .string] [Ev l x (.string s)]:Sx P L l (.call ⟨.builtin .len,#[x],#[t]⟩) (True) (.int .i64 s.size):=⟨λ_ _ _ _ ha _ _ _ _ _ _=>ex_lenS ha h.h⟩
instance Sx.neqB [h:Und P t .bool] [Ev l x (.bool p)] [Ev l y (.bool q)]:Sx P L l (.binOp .neq t x y t') (True) (.bool (p != q)):=⟨λ_ _ _ _ ha _ _ _ _ _ _=>ex_neqB ha h.h⟩
instance Sx.makeF {fn xs ys} [EvL l xs vs] [EvL l ys ws]:Sx P L l (.makeFunc fn xs.toArray ys.toArray) (True) (.func fn vs.toArray ws.toArray):=⟨λ_ _ _ _ ha _ _ _ _ _ _=>ex_makeFunc ha⟩
instance Sx.makeI {d}[h:Und P t d][g:NotI d] [Ev l x v]:Sx P L l (.makeInterface t x) (True) (.iface t v):=⟨λ_ _ _ _ ha _ _ _ _ _ _=>ex_makeI ha h.h (by have:=g.h;cases d <;> first | rfl | (simp at this))⟩
instance Sx.eqnilI {ms}[h:Und P t (.interface ms)] [Ev l x (.iface m v)]:Sx P L l (.binOp .eql t x (.const .nilIface) t') (True) (.bool false):=⟨λ_ _ _ _ ha _ _ _ _ _ _=>ex_eqnilI ha h.h⟩
instance Sx.index [h:Und P t (.slice el)][hi:TI P el zv sz by'] [Ev l x (.slice (some ⟨b,off,none⟩) m c)] [Ev l y (.int k i)] [NatOf i m'][q:IxOff off m' sz r]:Sx P L l (.indexAddr t x y) (m'<m) (.pointer (some ⟨b,r,none⟩)):=⟨λg _ _ _ ha _ _ _ _ _ _=>by rw[← q.h];exact ex_indexAddr ha h.h hi g⟩
instance Sx.indexA [h:Und P t (.array m el)][hi:TI P el zv sz by'] [Ev l x (.pointer (some ⟨b,off,none⟩))] [Ev l y (.int k i)] [NatOf i m'][q:IxOff off m' sz r]:Sx P L l (.indexAddr t x y) (m'<m) (.pointer (some ⟨b,r,none⟩)):=⟨λg _ _ _ ha _ _ _ _ _ _=>by rw[← q.h];exact ex_indexAddrA ha h.h hi g⟩
instance Sx.sliceL [h:Und P t (.slice el)][hi:TI P el zv sz by'] [Ev l x (.slice ad m c)] [Ev l y (.int k i)] [NatOf i m']:Sx P L l (.slice t x (some y) none none) (m'≤m) (.slice (cutAd ad m' c sz) (m-m') (c-m')):=⟨λg _ _ _ ha _ _ _ _ _ _=>ex_sliceL ha h.h hi g⟩
instance Sx.sliceH [h:Und P t (.slice el)][hi:TI P el zv sz by'] [Ev l x (.slice ad m c)] [Ev l y (.int k i)] [NatOf i m']:Sx P L l (.slice t x none (some y) none) (m'≤c) (.slice (cutAd ad 0 c sz) (m'-0) (c-0)):=⟨λg _ _ _ ha _ _ _ _ _ _=>ex_sliceH ha h.h hi g⟩
instance Sx.sliceLH [h:Und P t (.slice el)][hi:TI P el zv sz by'] [Ev l x (.slice ad m c)] [Ev l y (.int k i)] [NatOf i m'] [Ev l z (.int k' i')] [NatOf i' m'']:Sx P L l (.slice t x (some y) (some z) none) (m'≤m''∧m''≤c) (.slice (cutAd ad m' c sz) (m''-m') (c-m')):=⟨λg _ _ _ ha _ _ _ _ _ _=>ex_sliceLH ha h.h hi g.1 g.2⟩
instance Sx.slicePA [h:Und P t (.array m el)][hi:TI P el zv sz by'] [Ev l x (.pointer (some ⟨b,off,none⟩))]:Sx P L l (.slice t x none none none) (True) (.slice (some ⟨b,off,none⟩) m m):=⟨λ_ _ _ _ ha _ _ _ _ _ _=>ex_slicePA ha h.h hi⟩
instance Sx.conv [h:Und P t (.int k)][q:Und P t' (.int k')] [Ev l x (.int k i)]:Sx P L l (.convert t t' x) (k'.wrap i=i) (.int k' i):=⟨λg _ _ _ ha _ _ _ _ _ _=>ex_convIIs ha h.h q.h g⟩
instance Sx.build {places parts}[hb:BuildT P t places][hi:TI P t zv sz by'] [Cells zv zs] [FillQ places zs l parts vs]:Sx P L l (.build t (List.toArray parts)) ((places.all λp=>Nat.ble (p.1+p.2) zs.length)=true) (.agg vs.toArray):=⟨λg _ _ _ ha _ _ _ _ _ _=>ex_build ha hb hi g⟩
end
def Hd (C:World→Prop)(L:List SP):Prop:=∀ w',C w'→Lk L w'
theorem Hd.any (C:World→Prop):Hd C []:=λw' _=>Lk.nil w'
theorem Hd.old {W w:World}{L:List SP}(hs:St W w L):Hd (Old w) L:=λ_ h=>⟨W,w,hs,h⟩
def CN (b:Bool)(C:World→Prop)(K:Act→World→Prop):Act→World→Prop:=λa w=>(b=true→C w)∧K a w
def RetQ (X:Ending→World→Prop)(v:Value):Act→World→Prop:=λ_ w=>X (.returned v) w
def bodyQ (P:Program)(rs:List ResultVar)(X:Ending→World→Prop):Exit→Act→World→Prop:=λe a w=>∀ fn:Func,fn.results=rs.toArray→bodyPost P fn X e a w
class PkQ (Q:Exit→Act→World→Prop):Prop where h:PanOk Q
instance {K Q}[h:PkQ Q]:PkQ (Exit.then K Q):=⟨pk_then h.h⟩
instance {i Q}[h:PkQ Q]:PkQ (Exit.inBlock i Q):=⟨pk_blk h.h⟩
instance {P rs X}:PkQ (bodyQ P rs X):=⟨λc a o v w h fn hr=>pk_body c a o v w (h fn hr)⟩
class Mixed (P:Program):Prop where h:P.follows .mixedOrders=true
class Rn (k n:Nat)(C:World→Prop)(L0 L:List SP)(l:List (Nat×Value))(X:Act→World→Prop)(b:outParam Bool)(c:outParam Prop)(l':outParam (List (Nat×Value)))(Y:outParam (Act→World→Prop)):Prop where
 rn:b=true→c→∀ {a W w},Fr a n l→St W w L→Hd C L0∧C w→(∀ a,Fr a n l'→Y a w)→X a w
class Way (v:Value)(x y:Code)(z:outParam Code):Prop where h:∃ b,v=.bool b∧z=if b then x else y
instance {x y}:Way (.bool true) x y x:=⟨true,rfl,rfl⟩
instance {x y}:Way (.bool false) x y y:=⟨false,rfl,rfl⟩
def readyB (os:List Oper)(m i:Nat):Bool:=match Region.ready .any os.toArray (lb os.toArray.size m) with | [j]=>Nat.beq j i | _=>false
theorem readyB_of {os:List Oper}{m i:Nat}(h:readyB os m i=true):Region.ready .any os.toArray (lb os.toArray.size m)=[i]:=by
 unfold readyB at h
 split at h
 · rename_i j e;rw[e,Nat.eq_of_beq_eq_true h]
 · cases h
def doneB (os:List Oper)(m:Nat):Bool:=(Region.ready .any os.toArray (lb os.toArray.size m)).isEmpty
section
variable {P:Program}{k n d i j m fuel:Nat}{C C2:World→Prop}{L0 L:List SP}{l l1 l':List (Nat×Value)}{X Y K:Act→World→Prop}{b b2:Bool}{c c1 c2:Prop}{os rest:List Oper}{Q:Exit→Act→World→Prop}{op:Go.Op}{v:Value}{ty:TypeId}{ps:String}{af:Array Edge}{g:Option (Nat×Bool)}{x y z:Code}{o:Operand}{need od:List Nat}
instance (priority:=1) Rn.stop:Rn 0 n C L0 L l X true True l X:=⟨λ_ _ _ _ _ ha _ _ h=>h _ ha⟩
instance Rn.oper [e:Gd os l g true][s:Sx P L l op c1 v][q:Del l d l1][r:Rn k n C L0 L ((d,v)::l1) K b2 c2 l' Y][p:AndC c1 c2 c] :
   Rn (k+1) n C L0 L l (StepK P os.toArray Q ⟨some d,op,ty,ps,af,g⟩ K) (okB d n l1&&b2) c l' Y:=⟨λhb hc a W w ha hs hx h=>by
 rw[Bool.and_eq_true]at hb
 obtain⟨h1,h2⟩:=p.h hc
 exact st_set (ha.del d) (e.h ha) (s.ex h1 ha (Lk.of hs)) hb.1 λa ha=>r.rn hb.2 h2 ha hs hx h⟩
instance Rn.off {jb}[e:Gd os l (some jb) false][q:Del l d l1][r:Rn k n C L0 L ((d,undef)::l1) K b2 c l' Y] :
   Rn (k+1) n C L0 L l (StepK P os.toArray Q ⟨some d,op,ty,ps,af,some jb⟩ K) (okB d n l1&&b2) c l' Y:=⟨λhb hc a W w ha hs hx h=>by
 rw[Bool.and_eq_true]at hb
 exact st_offU (ha.del d) (e.h ha) hb.1 λa ha=>r.rn hb.2 hc ha hs hx h⟩
instance Rn.cons {ops}{o:Oper}[r:Rn k n C L0 L l (StepK P ops Q o (wpList P ops Q rest)) b c l' Y]:Rn k n C L0 L l (wpList P ops Q (o::rest)) b c l' Y:=⟨λhb hc _ _ _ ha hs hx h=>(r.rn hb hc ha hs hx h)⟩
instance Rn.nil {ops}[r:Rn k n C L0 L l (Q .normal) b c l' Y]:Rn k n C L0 L l (wpList P ops Q []) b c l' Y:=⟨λhb hc _ _ _ ha hs hx h=>LN (r.rn hb hc ha hs hx h)⟩
instance Rn.seq [r:Rn k n C L0 L l (x.wp P (Exit.then (y.wp P Q) Q)) b c l' Y]:Rn (k+1) n C L0 L l ((Code.seq x y).wp P Q) b c l' Y:=⟨λhb hc _ _ _ ha hs hx h=>wp_seq (r.rn hb hc ha hs hx h)⟩
instance Rn.region {id}[r:Rn k n C L0 L l (wpList P os.toArray Q os) b c l' Y]:Rn k n C L0 L l ((Code.region id os.toArray false).wp P Q) b c l' Y:=⟨λhb hc _ _ _ ha hs hx h=>wp_region_lit (r.rn hb hc ha hs hx h)⟩
instance Rn.skip [r:Rn k n C L0 L l (Q .normal) b c l' Y]:Rn k n C L0 L l (Code.skip.wp P Q) b c l' Y:=⟨λhb hc _ _ _ ha hs hx h=>wp_skip (r.rn hb hc ha hs hx h)⟩
instance Rn.block [r:Rn k n C L0 L l (x.wp P (Exit.inBlock i Q)) b c l' Y]:Rn k n C L0 L l ((Code.block i x).wp P Q) b c l' Y:=⟨λhb hc _ _ _ ha hs hx h=>wp_block (r.rn hb hc ha hs hx h)⟩
instance Rn.exit [r:Rn k n C L0 L l (Q (.exit i)) b c l' Y]:Rn k n C L0 L l ((Code.exit i).wp P Q) b c l' Y:=⟨λhb hc _ _ _ ha hs hx h=>wp_exit (r.rn hb hc ha hs hx h)⟩
instance Rn.ret [r:Rn k n C L0 L l (Q .ret) b c l' Y]:Rn k n C L0 L l (Code.ret.wp P Q) b c l' Y:=⟨λhb hc _ _ _ ha hs hx h=>wp_ret (r.rn hb hc ha hs hx h)⟩
instance Rn.cond [e:Ev l o v][q:Way v x y z][r:Rn k n C L0 L l (z.wp P Q) b c l' Y]:Rn (k+1) n C L0 L l ((Code.cond o x y).wp P Q) b c l' Y:=⟨λhb hc _ _ _ ha hs hx h=>by
 obtain⟨t,rfl,rfl⟩:=q.h
 exact wp_cond (e.ev _ _ ha) (r.rn hb hc ha hs hx h)⟩
instance Rn.thenN [r:Rn k n C L0 L l (K) b c l' Y]:Rn k n C L0 L l (Exit.then K Q .normal) b c l' Y:=⟨λhb hc _ _ _ ha hs hx h=>TN (r.rn hb hc ha hs hx h)⟩
instance Rn.thenR [r:Rn k n C L0 L l (Q .ret) b c l' Y]:Rn k n C L0 L l (Exit.then K Q .ret) b c l' Y:=⟨λhb hc _ _ _ ha hs hx h=>TR (r.rn hb hc ha hs hx h)⟩
instance Rn.thenE [r:Rn k n C L0 L l (Q (.exit i)) b c l' Y]:Rn k n C L0 L l (Exit.then K Q (.exit i)) b c l' Y:=⟨λhb hc _ _ _ ha hs hx h=>TE (r.rn hb hc ha hs hx h)⟩
instance Rn.blkN [r:Rn k n C L0 L l (Q .normal) b c l' Y]:Rn k n C L0 L l (Exit.inBlock i Q .normal) b c l' Y:=⟨λhb hc _ _ _ ha hs hx h=>BN (r.rn hb hc ha hs hx h)⟩
instance Rn.blkR [r:Rn k n C L0 L l (Q .ret) b c l' Y]:Rn k n C L0 L l (Exit.inBlock i Q .ret) b c l' Y:=⟨λhb hc _ _ _ ha hs hx h=>BR (r.rn hb hc ha hs hx h)⟩
instance (priority:=high) Rn.blkE [r:Rn k n C L0 L l (Q .normal) b c l' Y]:Rn k n C L0 L l (Exit.inBlock i Q (.exit i)) b c l' Y:=⟨λhb hc _ _ _ ha hs hx h=>blk_e (r.rn hb hc ha hs hx h)⟩
instance Rn.blkF [r:Rn k n C L0 L l (Q (.exit j)) b c l' Y]:Rn k n C L0 L l (Exit.inBlock i Q (.exit j)) (!Nat.beq j i&&b) c l' Y:=⟨λhb hc _ _ _ ha hs hx h=>by
 rw[Bool.and_eq_true,Bool.not_eq_true']at hb
 exact blk_ne hb.1 (r.rn hb.2 hc ha hs hx h)⟩
variable {t u r3:Nat}{v2 v3 zv:Value}{vs cs:List Value}{R:Ending→World→Prop}{bb off e sz by':Nat}{RR:List SP}{dd:TypeDesc}
instance Rn.end0:Rn 0 n C L0 L l (bodyQ P [] R .normal) true True l (RetQ R (.tuple #[])):=⟨λ_ _ _ _ _ ha _ _ h _ hr=>Go.Proofs.YteoldcfapaiobaaGreat.end0 ha hr (h _ ha)⟩
instance Rn.ret0:Rn 0 n C L0 L l (bodyQ P [] R .ret) true True l (RetQ R (.tuple #[])):=⟨λ_ _ _ _ _ ha _ _ h _ hr=>Go.Proofs.YteoldcfapaiobaaGreat.ret0 ha hr (h _ ha)⟩
instance Rn.ret1 [Get l t v]:Rn 0 n C L0 L l (bodyQ P [.tmp t] R .ret) true True l (RetQ R v):=⟨λ_ _ _ _ _ ha _ _ h _ hr=>Go.Proofs.YteoldcfapaiobaaGreat.ret1 ha hr (h _ ha)⟩
instance Rn.ret2 [Get l t v] [Get l u v2]:Rn 0 n C L0 L l (bodyQ P [.tmp t,.tmp u] R .ret) true True l (RetQ R (.tuple #[v,v2])):=⟨λ_ _ _ _ _ ha _ _ h _ hr=>Go.Proofs.YteoldcfapaiobaaGreat.ret2 ha hr (h _ ha)⟩
instance Rn.ret3 [Get l t v] [Get l u v2] [Get l r3 v3]:Rn 0 n C L0 L l (bodyQ P [.tmp t,.tmp u,.tmp r3] R .ret) true True l (RetQ R (.tuple #[v,v2,v3])):=⟨λ_ _ _ _ _ ha _ _ h _ hr=>Go.Proofs.YteoldcfapaiobaaGreat.ret3 ha hr (h _ ha)⟩
instance Rn.retCN [Get l t (.pointer (some ⟨bb,off,none⟩))][q:Und P u dd][p2:OneD dd false][hi:TI P u zv sz by'] [Blk L bb e cs RR] [SubC cs off sz vs][p:LenEq vs sz]:Rn 0 n C L0 L l (bodyQ P [.cell t u] R .ret) true True l (RetQ R (.agg vs.toArray)):=⟨λ_ _ _ _ _ ha hs _ h _ hr =>
 Go.Proofs.YteoldcfapaiobaaGreat.retC1 ha hr (run_loadN q.h p2.h (by rw[p.h];exact hi) (hs.rdN sz)) (h _ ha)⟩
instance Rn.retC2N [Get l t (.pointer (some ⟨bb,off,none⟩))][q:Und P u dd][p2:OneD dd false][hi:TI P u zv sz by'] [Blk L bb e cs RR] [SubC cs off sz vs][p:LenEq vs sz] [Get l r3 v2]:Rn 0 n C L0 L l (bodyQ P [.cell t u,.tmp r3] R .ret) true True l (RetQ R (.tuple #[.agg vs.toArray,v2])):=⟨λ_ _ _ _ _ ha hs _ h _ hr =>
 Go.Proofs.YteoldcfapaiobaaGreat.retC2 ha hr (run_loadN q.h p2.h (by rw[p.h];exact hi) (hs.rdN sz)) (h _ ha)⟩
instance Rn.cn [r:Rn k n C L0 L l K b c l' Y]:Rn k n C L0 L l (CN b2 C K) b c l' Y:=⟨λhb hc _ _ _ ha hs hx h=>⟨λ_=>hx.2,r.rn hb hc ha hs hx h⟩⟩
instance (priority:=low) Rn.cnF [r:Rn k n C L0 L l K b c l' Y]:Rn k n C L0 L l (CN b2 C2 K) (!b2&&b) c l' Y:=⟨λhb hc _ _ _ ha hs hx h=>by
 rw[Bool.and_eq_true,Bool.not_eq_true']at hb
 exact⟨λe=>(by rw[hb.1]at e;cases e),r.rn hb.2 hc ha hs hx h⟩⟩
instance Rn.one {o}[p:OpAt os i o][r:Rn k n C L0 L l (StepK P os.toArray Q o (CN (need.contains i) C2 (wpO P os.toArray Q C2 need od fuel (bitOn m i)))) b c l' Y] :
   Rn k n C L0 L l (wpO P os.toArray Q C2 need ((i+1000)::od) (fuel+1) m) (readyB os m i&&b) c l' Y:=⟨λhb hc a W w ha hs hx h=>by
 rw[Bool.and_eq_true]at hb
 show wpO P os.toArray Q C2 need (i::od) (fuel+1) m a w
 exact D1 (by rw[List.getElem?_toArray];exact p.h) (r.rn hb.2 hc ha hs hx h) (readyB_of hb.1)⟩
instance (priority:=low) Rn.pure [p:OpAt os i ⟨some d,op,ty,ps,af,g⟩][pk:PkQ Q][e:Gd os l g true][s:Sx P [] l op c1 v][q:Del l d l1][r:Rn k n C L0 L ((d,v)::l1) (wpO P os.toArray Q C2 need od fuel (bitOn m i)) b2 c2 l' Y][qq:AndC c1 c2 c] :
   Rn (k+1) n C L0 L l (wpO P os.toArray Q C2 need (i::od) (fuel+1) m) (takeB os.toArray (lb os.toArray.size m) need true i&&!need.contains i&&okB d n l1&&b2) c l' Y:=⟨λhb hc a W w ha hs hx h=>by
 simp only[Bool.and_eq_true,Bool.not_eq_true']at hb
 obtain⟨h1,h2⟩:=qq.h hc
 exact nt_pure (lb_on _ _ _) (by rw[List.getElem?_toArray];exact p.h) hb.1.1.1 hb.1.1.2 pk.h (ha.del d) (e.h ha) (λw=>s.ex h1 ha (Lk.nil w)) hb.1.2 λa ha=>r.rn hb.2 h2 ha hs hx h⟩
instance (priority:=low) Rn.pureOff {jb}[p:OpAt os i ⟨some d,op,ty,ps,af,some jb⟩][pk:PkQ Q][e:Gd os l (some jb) false][q:Del l d l1][r:Rn k n C L0 L ((d,undef)::l1) (wpO P os.toArray Q C2 need od fuel (bitOn m i)) b2 c l' Y] :
   Rn (k+1) n C L0 L l (wpO P os.toArray Q C2 need (i::od) (fuel+1) m) (takeB os.toArray (lb os.toArray.size m) need true i&&!need.contains i&&okB d n l1&&b2) c l' Y:=⟨λhb hc a W w ha hs hx h=>by
 simp only[Bool.and_eq_true,Bool.not_eq_true']at hb
 exact nt_offU (lb_on _ _ _) (by rw[List.getElem?_toArray];exact p.h) hb.1.1.1 hb.1.1.2 pk.h (ha.del d) (e.h ha) hb.1.2 λa ha=>r.rn hb.2 hc ha hs hx h⟩
instance (priority:=high) Rn.held [p:OpAt os i ⟨some d,op,ty,ps,af,g⟩][pk:PkQ Q][e:Gd os l g true][s:Sx P L0 l op c1 v][q:Del l d l1][r:Rn k n C L0 L ((d,v)::l1) (wpO P os.toArray Q C need od fuel (bitOn m i)) b2 c2 l' Y][qq:AndC c1 c2 c] :
   Rn (k+1) n C L0 L l (wpO P os.toArray Q C need ((i+3000)::od) (fuel+1) m) (takeB os.toArray (lb os.toArray.size m) need false i&&okB d n l1&&b2) c l' Y:=⟨λhb hc a W w ha hs hx h=>by
 simp only[Bool.and_eq_true]at hb
 obtain⟨h1,h2⟩:=qq.h hc
 exact nt_held (lb_on _ _ _) (by rw[List.getElem?_toArray];exact p.h) hb.1.1 pk.h (ha.del d) (e.h ha) (λw hw=>s.ex h1 ha (hx.1 w hw)) hx.2 hb.1.2 λa ha=>r.rn hb.2 h2 ha hs hx h⟩
instance (priority:=high) Rn.heldOff {jb}[p:OpAt os i ⟨some d,op,ty,ps,af,some jb⟩][pk:PkQ Q][e:Gd os l (some jb) false][q:Del l d l1][r:Rn k n C L0 L ((d,undef)::l1) (wpO P os.toArray Q C need od fuel (bitOn m i)) b2 c l' Y] :
   Rn (k+1) n C L0 L l (wpO P os.toArray Q C need ((i+3000)::od) (fuel+1) m) (takeB os.toArray (lb os.toArray.size m) need false i&&okB d n l1&&b2) c l' Y:=⟨λhb hc a W w ha hs hx h=>by
 simp only[Bool.and_eq_true]at hb
 exact nt_offUH (lb_on _ _ _) (by rw[List.getElem?_toArray];exact p.h) hb.1.1 pk.h (ha.del d) (e.h ha) hx.2 hb.1.2 λa ha=>r.rn hb.2 hc ha hs hx h⟩
instance Rn.done [r:Rn k n C L0 L l (Q .normal) b c l' Y]:Rn k n C L0 L l (wpO P os.toArray Q C2 need [] fuel m) (doneB os m&&b) c l' Y:=⟨λhb hc _ _ _ ha hs hx h=>by
 rw[Bool.and_eq_true]at hb
 exact DD (r.rn hb.2 hc ha hs hx h) (List.isEmpty_iff.1 hb.1)⟩
class Zp (vs:List Value)(ks:List Nat)(l:outParam (List (Nat×Value))):Prop where h:ks.zip vs=l
instance Zp.nil {ks}:Zp [] ks []:=⟨by simp⟩
instance Zp.cons {v vs k ks l}[h:Zp vs ks l]:Zp (v::vs) (k::ks) ((k,v)::l):=⟨by rw[List.zip_cons_cons,h.h]⟩
class App (xs ys:List Value)(zs:outParam (List Value)):Prop where h:xs++ys=zs
instance App.nil {ys}:App [] ys ys:=⟨rfl⟩
instance App.cons {x xs ys zs}[h:App xs ys zs]:App (x::xs) ys (x::zs):=⟨by rw[List.cons_append,h.h]⟩
instance Zp.app {xs ys zs ks l}[q:App xs ys zs][h:Zp zs ks l]:Zp (xs++ys) ks l:=⟨by rw[q.h];exact h.h⟩
class PutD (n:Nat)(l:List (Nat×Value))(d:Option Tmp)(b:outParam Bool)(F:outParam (Value→List (Nat×Value))):Prop where h:b=true→∀ {a v},Fr a n l→Fr (a.put d v) n (F v)
instance PutD.some {n l d l1}[q:Del l d l1]:PutD n l (some d) (okB d n l1) (λv=>(d,v)::l1):=⟨λh _ v ha=>(ha.del d).put h v⟩
class Cee (P:Program)(l:List (Nat×Value))(ce:Callee)(args:List Operand)(f:outParam Nat)(vs:outParam (List Value)):Prop where
 h:callable P f=true→∀ {a n w},Fr a n l→∀ {dst tys ty ps af g},(execOp a.eval ⟨dst,.call ⟨ce,args.toArray,tys⟩,ty,ps,af,g⟩).run P w=.ok (.enter f vs.toArray) w
instance Cee.fn {P l f args vs}[ev:EvL l args vs]:Cee P l (.value (.func f)) args f vs:=⟨λhb a n w ha _ _ _ _ _ _=>by
 have h2:a.eval (.func f)=.func (.func f) #[] #[]:=rfl
 simp[execOp,resolve,h2,Deferred.ofValue,invoke,ev.ev a n ha,run_callFunc hb]⟩
instance Cee.fv {P l x f us args vs zs}[ex:Ev l (.tmp x) (.func (.func f) #[] (List.toArray us))][ev:EvL l args vs][q:App vs us zs]:Cee P l (.value (.tmp x)) args f zs:=⟨λhb a n w ha _ _ _ _ _ _=>by
 rw[← q.h];simp[execOp,resolve,ex.ev a n ha,Deferred.ofValue,invoke,ev.ev a n ha,run_callFunc hb]⟩
class OneL (vs:List Value):Prop where h:∀ v∈vs,v.oneCell'=true
instance OneL.nil:OneL []:=⟨by simp⟩
instance OneL.ints {k m g}:OneL (ints k m g):=⟨ints_one⟩
class One (v:Value):Prop where h:v.oneCell'=true
instance {k i}:One (.int k i):=⟨rfl⟩
instance {b}:One (.bool b):=⟨rfl⟩
instance {s}:One (.string s):=⟨rfl⟩
instance {p}:One (.pointer p):=⟨rfl⟩
instance {p n c}:One (.slice p n c):=⟨rfl⟩
instance {t v}:One (.iface t v):=⟨rfl⟩
instance OneL.cons {v vs}[h:One v][k:OneL vs]:OneL (v::vs):=⟨λx hx=>by
 rcases List.mem_cons.1 hx with rfl | hx
 · exact h.h
 · exact k.h x hx⟩
variable {a:Act}{w W:World}{l2:List (Nat×Value)}{p q:Prop}{bp:Bool}{F:Value→List (Nat×Value)}{dst:Option Tmp}{ce:Callee}{args:List Operand}{f:Nat}{tys:Array TypeId}{xo yo:Operand}
abbrev Top:World→Prop:=λ_=>True
theorem topx {w:World}:Hd Top []∧Top w:=⟨Hd.any _,trivial⟩
theorem EN {fn:Func}{cd:Code}{rs:List ResultVar}{X:Ending→World→Prop}(hf:P.funcs[f]?=some fn)(hn:fn.ntmps=m)(hb:fn.body=some cd)(hr:fn.results=rs.toArray)[z:Zp vs [0,1,2,3,4,5,6,7,8,9,10,11] l](h:∀ a,Fr a m l→cd.wp P (bodyQ P rs X) a w)
   (hm:(Nat.ble vs.length m&&Nat.ble vs.length 12)=true:=by rfl):Calls P f vs.toArray w X:=by
 rw[Bool.and_eq_true]at hm
 refine calls_enter hf hb hn (Nat.le_of_ble_eq_true hm.1) λa ha=>wp_mono (h a ?_) λ_ _ _ hq=>hq fn hr
 have h12:=Nat.le_of_ble_eq_true hm.2
 rw[← z.h]
 have e:((List.range vs.length).zip vs)=[0,1,2,3,4,5,6,7,8,9,10,11].zip vs:=by
   have h3:[0,1,2,3,4,5,6,7,8,9,10,11]=List.range (vs.length+(12-vs.length)):=by rw[show vs.length+(12-vs.length)=12 from by omega];rfl
   rw[h3,List.range_add]
   have h4:=List.zip_append (l₁:=List.range vs.length) (l₂:=vs) (r₁:=(List.range (12-vs.length)).map (vs.length+·)) (r₂:=[]) (by simp)
   rw[List.append_nil]at h4
   rw[h4];simp
 rw[← e];exact ha
theorem RN (k:Nat)(ha:Fr a n l)(hs:St W w L)[r:Rn k n Top [] L l X b c l' Y](h:∀ a,Fr a n l'→Y a w)(hb:b=true:=by kernel_rfl)(hc:c:=by (repeat' refine And.intro ?_ ?_) <;> first | exact True.intro | omega | exact (rfl:_=_) | decide):X a w:=r.rn hb hc ha hs topx h
theorem RH (k:Nat)(ha:Fr a n l)(hs:St W w L)(hH:Hd C L0)(hC:C w)[r:Rn k n C L0 L l X b c l' Y](h:∀ a,Fr a n l'→Y a w)(hb:b=true:=by kernel_rfl)(hc:c:=by (repeat' refine And.intro ?_ ?_) <;> first | exact True.intro | omega | exact (rfl:_=_) | decide):X a w:=r.rn hb hc ha hs ⟨hH,hC⟩ h
theorem RT (k:Nat)(ha:Fr a n l)(hs:St W w L)[r:Rn k n Top [] L l X b c l' (RetQ R v)](h:R (.returned v) w)(hb:b=true:=by kernel_rfl)(hc:c:=by (repeat' refine And.intro ?_ ?_) <;> first | exact True.intro | omega | exact (rfl:_=_) | decide):X a w:=r.rn hb hc ha hs topx λ_ _=>h
theorem IF (k:Nat)(ha:Fr a n l)(hs:St W w L)[r:Rn k n Top [] L l X b c l1 ((Code.cond (.tmp t) x y).wp P Q)][g1:Get l1 t (.bool b2)][g2:Del l1 t l2][g3:BP b2 p q]
   (ht:p→∀ a,Fr a n ((t,.bool true)::l2)→x.wp P Q a w) (hf:q→∀ a,Fr a n ((t,.bool false)::l2)→y.wp P Q a w) (hb:b=true:=by kernel_rfl) (hc:c:=by (repeat' refine And.intro ?_ ?_) <;> first | exact True.intro | omega | exact (rfl:_=_) | decide):X a w :=
 r.rn hb hc ha hs topx λa ha=>ha.by (s:=t) (λh ha=>wp_ifT ha (ht h _ ha)) (λh ha=>wp_ifF ha (hf h _ ha))
theorem IFR (k:Nat)(ha:Fr a n l)(hs:St W w L)[r:Rn k n Top [] L l X b c l1 ((Code.cond (.tmp t) x y).wp P Q)][g1:Get l1 t (.bool b2)][g2:Del l1 t l2]
   (ht:b2=true→∀ a,Fr a n ((t,.bool true)::l2)→x.wp P Q a w) (hf:b2=false→∀ a,Fr a n ((t,.bool false)::l2)→y.wp P Q a w) (hb:b=true:=by kernel_rfl) (hc:c:=by (repeat' refine And.intro ?_ ?_) <;> first | exact True.intro | omega | exact (rfl:_=_) | decide):X a w :=
 r.rn hb hc ha hs topx λa ha=>ha.bool (s:=t) (λh ha=>wp_ifT ha (ht h _ ha)) (λh ha=>wp_ifF ha (hf h _ ha))
theorem BY (k:Nat)(ha:Fr a n l)(hs:St W w L)[r:Rn k n Top [] L l X b c l1 (StepK P os.toArray Q ⟨dst,op,ty,ps,af,some (j,bp)⟩ K)][d1:Dst os j t][g1:Get l1 t (.bool b2)][g2:Del l1 t l2][g3:BP b2 p q]
   (ht:p→∀ a,Fr a n ((t,.bool true)::l2)→StepK P os.toArray Q ⟨dst,op,ty,ps,af,some (j,bp)⟩ K a w) (hf:q→∀ a,Fr a n ((t,.bool false)::l2)→StepK P os.toArray Q ⟨dst,op,ty,ps,af,some (j,bp)⟩ K a w)
   (hb:b=true:=by kernel_rfl) (hc:c:=by (repeat' refine And.intro ?_ ?_) <;> first | exact True.intro | omega | exact (rfl:_=_) | decide):X a w :=
 r.rn hb hc ha hs topx λa ha=>ha.by (s:=t) (λh ha=>ht h _ ha) (λh ha=>hf h _ ha)
theorem st_calls (ha:Fr a n l)[e:Gd os l g true][ev:Cee P l ce args f vs][pd:PutD n l dst bp F]{X:Ending→World→Prop}(hc:Calls P f vs.toArray w X)(hbp:bp=true)(hf:callable P f=true)
   (h:∀ e w',X e w'→∃ v,e=.returned v∧∀ a',Fr a' n (F v)→K a' w'):StepK P os.toArray Q ⟨dst,.call ⟨ce,args.toArray,tys⟩,ty,ps,af,g⟩ K a w :=
 st_enter (e.h ha) (ev.h hf ha) hc λe w' hx=>let ⟨v,he,hv⟩:=h e w' hx;⟨v,he,hv _ (pd.h hbp ha)⟩
section
variable {α β γ:Type}{S0:World→Prop}{S1:α→World→Prop}{S2:α→β→World→Prop}{S3:α→β→γ→World→Prop}{v1:α→Value}{w2:α→β→Value}{w3:α→β→γ→Value}
theorem CL (k:Nat)(ha:Fr a n l)(hs:St W w L)[r:Rn k n Top [] L l X b c l1 (StepK P os.toArray Q ⟨dst,.call ⟨ce,args.toArray,tys⟩,ty,ps,af,g⟩ K)][e:Gd os l1 g true][ev:Cee P l1 ce args f vs][pd:PutD n l1 dst bp F]
   (hq:Calls P f vs.toArray w λr w'=>r=.returned v∧S0 w') (h:∀ a w,Fr a n (F v)→S0 w→K a w) (hb:(b&&bp)=true:=by kernel_rfl) (hf:callable P f=true:=by kernel_rfl) (hc:c:=by (repeat' refine And.intro ?_ ?_) <;> first | exact True.intro | omega | exact (rfl:_=_) | decide):X a w:=by
 simp only[Bool.and_eq_true]at hb
 exact r.rn hb.1 hc ha hs topx λa ha=>st_calls ha hq hb.2 hf λe w' ⟨h1,h2⟩=>⟨_,h1,λa ha=>h a w' ha h2⟩
theorem CL1 (k:Nat)(ha:Fr a n l)(hs:St W w L)[r:Rn k n Top [] L l X b c l1 (StepK P os.toArray Q ⟨dst,.call ⟨ce,args.toArray,tys⟩,ty,ps,af,g⟩ K)][e:Gd os l1 g true][ev:Cee P l1 ce args f vs][pd:PutD n l1 dst bp F]
   (hq:Calls P f vs.toArray w λr w'=>∃ x,r=.returned (v1 x)∧S1 x w') (h:∀ x a w,Fr a n (F (v1 x))→S1 x w→K a w) (hb:(b&&bp)=true:=by kernel_rfl) (hf:callable P f=true:=by kernel_rfl) (hc:c:=by (repeat' refine And.intro ?_ ?_) <;> first | exact True.intro | omega | exact (rfl:_=_) | decide):X a w:=by
 simp only[Bool.and_eq_true]at hb
 exact r.rn hb.1 hc ha hs topx λa ha=>st_calls ha hq hb.2 hf λe w' ⟨x,h1,h2⟩=>⟨_,h1,λa ha=>h x a w' ha h2⟩
theorem CL2 (k:Nat)(ha:Fr a n l)(hs:St W w L)[r:Rn k n Top [] L l X b c l1 (StepK P os.toArray Q ⟨dst,.call ⟨ce,args.toArray,tys⟩,ty,ps,af,g⟩ K)][e:Gd os l1 g true][ev:Cee P l1 ce args f vs][pd:PutD n l1 dst bp F]
   (hq:Calls P f vs.toArray w λr w'=>∃ x y,r=.returned (w2 x y)∧S2 x y w') (h:∀ x y a w,Fr a n (F (w2 x y))→S2 x y w→K a w) (hb:(b&&bp)=true:=by kernel_rfl) (hf:callable P f=true:=by kernel_rfl) (hc:c:=by (repeat' refine And.intro ?_ ?_) <;> first | exact True.intro | omega | exact (rfl:_=_) | decide):X a w:=by
 simp only[Bool.and_eq_true]at hb
 exact r.rn hb.1 hc ha hs topx λa ha=>st_calls ha hq hb.2 hf λe w' ⟨x,y,h1,h2⟩=>⟨_,h1,λa ha=>h x y a w' ha h2⟩
theorem CL3 (k:Nat)(ha:Fr a n l)(hs:St W w L)[r:Rn k n Top [] L l X b c l1 (StepK P os.toArray Q ⟨dst,.call ⟨ce,args.toArray,tys⟩,ty,ps,af,g⟩ K)][e:Gd os l1 g true][ev:Cee P l1 ce args f vs][pd:PutD n l1 dst bp F]
   (hq:Calls P f vs.toArray w λr w'=>∃ x y z,r=.returned (w3 x y z)∧S3 x y z w') (h:∀ x y z a w,Fr a n (F (w3 x y z))→S3 x y z w→K a w) (hb:(b&&bp)=true:=by kernel_rfl) (hf:callable P f=true:=by kernel_rfl) (hc:c:=by (repeat' refine And.intro ?_ ?_) <;> first | exact True.intro | omega | exact (rfl:_=_) | decide):X a w:=by
 simp only[Bool.and_eq_true]at hb
 exact r.rn hb.1 hc ha hs topx λa ha=>st_calls ha hq hb.2 hf λe w' ⟨x,y,z,h1,h2⟩=>⟨_,h1,λa ha=>h x y z a w' ha h2⟩
end
theorem CLX (k:Nat)(ha:Fr a n l)(hs:St W w L)[r:Rn k n Top [] L l X b c l1 (StepK P os.toArray Q ⟨dst,.call ⟨ce,args.toArray,tys⟩,ty,ps,af,g⟩ K)][e:Gd os l1 g true][ev:Cee P l1 ce args f vs][pd:PutD n l1 dst bp F]{Z:Ending→World→Prop}
   (hq:Calls P f vs.toArray w Z) (h:∀ e w,Z e w→∃ v,e=.returned v∧∀ a,Fr a n (F v)→K a w) (hb:(b&&bp)=true:=by kernel_rfl) (hf:callable P f=true:=by kernel_rfl) (hc:c:=by (repeat' refine And.intro ?_ ?_) <;> first | exact True.intro | omega | exact (rfl:_=_) | decide):X a w:=by
 simp only[Bool.and_eq_true]at hb
 exact r.rn hb.1 hc ha hs topx λa ha=>st_calls ha hq hb.2 hf h
variable {cs cs':List Value}{eT:TypeId}{S:List SP}
theorem ST (k:Nat)(ha:Fr a n l)(hs:St W w L)[r:Rn k n Top [] L l X b c l1 (StepK P os.toArray Q ⟨none,.store t xo yo,ty,ps,af,g⟩ K)][eg:Gd os l1 g true][ev:Ev l1 xo (.pointer (some ⟨bb,off,none⟩))][ew:Ev l1 yo v][hi:TI P t zv 1 by'][kc:Cells v [v]][o1:One v]
   [kb:Blk L bb eT cs S] [sc:SetC cs off v cs'] (h:∀ a w,Fr a n l1→St W w (blk bb eT cs'::S)→K a w) (hb:b=true:=by kernel_rfl) (hc:c:=by (repeat' refine And.intro ?_ ?_) <;> first | exact True.intro | omega | exact (rfl:_=_) | decide) (hlt:off<cs.length:=by first | exact Nat.lt_of_ble_eq_true rfl | omega | simp):X a w :=
 r.rn hb hc ha hs topx λa ha=>st_store ha (eg.h ha) hs hi o1.h hlt h
theorem SA (k:Nat)(ha:Fr a n l)(hs:St W w L)[r:Rn k n Top [] L l X b c l1 (StepK P os.toArray Q ⟨none,.store t xo yo,ty,ps,af,g⟩ K)][eg:Gd os l1 g true][ev:Ev l1 xo (.pointer (some ⟨bb,0,none⟩))][ew:Ev l1 yo v][hi:TI P t zv m by'][kc:Cells v vs][le:LenEq vs m][o1:OneL vs]
   [kb:Blk L bb eT cs S] [le2:LenEq cs m] (h:∀ a w,Fr a n l1→St W w (blk bb eT vs::S)→K a w) (hb:b=true:=by kernel_rfl) (hc:c:=by (repeat' refine And.intro ?_ ?_) <;> first | exact True.intro | omega | exact (rfl:_=_) | decide):X a w :=
 r.rn hb hc ha hs topx λa ha=>st_storeAll ha (eg.h ha) hs (by rw[le.h];exact hi) o1.h (by rw[le.h,le2.h]) h
theorem AL (k:Nat)(ha:Fr a n l)(hs:St W w L)[r:Rn k n Top [] L l X b c l1 (StepK P os.toArray Q ⟨some d,.alloc t,ty,ps,af,g⟩ K)][eg:Gd os l1 g true][hi:TI P t zv m by'][kc:Cells zv vs][q:Del l1 d l2]
   (h:∀ b a w',Fr a n ((d,.pointer (some ⟨b,0,none⟩))::l2)→St W w' (blk b t vs::L)→K a w') (hb:(b&&okB d n l2)=true:=by kernel_rfl) (hc:c:=by (repeat' refine And.intro ?_ ?_) <;> first | exact True.intro | omega | exact (rfl:_=_) | decide):X a w:=by
 rw[Bool.and_eq_true]at hb
 exact r.rn hb.1 hc ha hs topx λa ha=>st_alloc (ha.del d) (eg.h ha) hs hi hb.2 λb a w ha hs _=>h b a w ha hs
theorem BX (k:Nat)(ha:Fr a n l)(hs:St W w L)[r:Rn k n Top [] L l X b c l1 (StepK P os.toArray Q ⟨some d,.box t xo,ty,ps,af,g⟩ K)][eg:Gd os l1 g true][ev:Ev l1 xo v][kc:Cells v vs][q:Del l1 d l2]
   (h:∀ b a w',Fr a n ((d,.pointer (some ⟨b,0,none⟩))::l2)→St W w' (blk b t vs::L)→K a w') (hb:(b&&okB d n l2)=true:=by kernel_rfl) (hc:c:=by (repeat' refine And.intro ?_ ?_) <;> first | exact True.intro | omega | exact (rfl:_=_) | decide):X a w:=by
 rw[Bool.and_eq_true]at hb
 refine r.rn hb.1 hc ha hs topx λa ha=>?_
 have:=ev.ev a n ha
 refine st_set (v:=.pointer (some ⟨w.heap.size,0,none⟩)) (w':=w.alloc (.cells vs.toArray t)) (ha.del d) (eg.h ha) ?_ hb.2 (λa' ha'=>h _ _ _ ha' (hs.alloc _))
 simp[execOp,Instr.box,this,newVar,newRow,newObj,Sem.run,kc.h,Sem.run_bind]
theorem SX (k:Nat)(ha:Fr a n l)(hs:St W w L)[r:Rn k n Top [] L l X b c l1 (StepK P os.toArray Q ⟨some d,op,ty,ps,af,g⟩ K)][eg:Gd os l1 g true][s:Sx P L l1 op c1 v][q:Del l1 d l2](h1:c1)
   (h:∀ a,Fr a n ((d,v)::l2)→K a w) (hb:(b&&okB d n l2)=true:=by kernel_rfl) (hc:c:=by (repeat' refine And.intro ?_ ?_) <;> first | exact True.intro | omega | exact (rfl:_=_) | decide):X a w:=by
 rw[Bool.and_eq_true]at hb
 exact r.rn hb.1 hc ha hs topx λa ha=>st_set (ha.del d) (eg.h ha) (s.ex h1 ha (Lk.of hs)) hb.2 h
theorem QP [p:OpAt os i ⟨some d,op,ty,ps,af,g⟩][pk:PkQ Q][e:Gd os l g true][q:Del l d l1](ha:Fr a n l)(hr:∀ w,(execOp a.eval ⟨some d,op,ty,ps,af,g⟩).run P w=.ok (.value v) w)
   (h:∀ a,Fr a n ((d,v)::l1)→wpO P os.toArray Q C2 need od fuel (bitOn m i) a w) (hb:(takeB os.toArray (lb os.toArray.size m) need true i&&!need.contains i&&okB d n l1)=true:=by kernel_rfl):wpO P os.toArray Q C2 need (i::od) (fuel+1) m a w:=by
 simp only[Bool.and_eq_true,Bool.not_eq_true']at hb
 exact nt_pure (lb_on _ _ _) (by rw[List.getElem?_toArray];exact p.h) hb.1.1 hb.1.2 pk.h (ha.del d) (e.h ha) hr hb.2 h
theorem QH [p:OpAt os i ⟨some d,op,ty,ps,af,g⟩][pk:PkQ Q][e:Gd os l g true][q:Del l d l1](ha:Fr a n l)(hr:∀ w,C2 w→(execOp a.eval ⟨some d,op,ty,ps,af,g⟩).run P w=.ok (.value v) w)(hC:C2 w)
   (h:∀ a,Fr a n ((d,v)::l1)→wpO P os.toArray Q C2 need od fuel (bitOn m i) a w) (hb:(takeB os.toArray (lb os.toArray.size m) need false i&&okB d n l1)=true:=by kernel_rfl):wpO P os.toArray Q C2 need ((i+3000)::od) (fuel+1) m a w:=by
 simp only[Bool.and_eq_true]at hb
 exact nt_held (lb_on _ _ _) (by rw[List.getElem?_toArray];exact p.h) hb.1 pk.h (ha.del d) (e.h ha) hr hC hb.2 h
theorem DWC (k:Nat)(C:World→World→Prop)(need od:List Nat)(ha:Fr a n l)(hs:St W w L)[r:Rn k n Top [] L l X b c l1 ((Code.region i os.toArray true).wp P Q)][pk:PkQ Q][mx:Mixed P]
   (h:∀ a w,Fr a n l1→St W w L→Hd (C w) []→wpO P os.toArray Q (C w) need od os.length 0 a w) (hb:b=true:=by kernel_rfl) (hc:c:=by (repeat' refine And.intro ?_ ?_) <;> first | exact True.intro | omega | exact (rfl:_=_) | decide):X a w :=
 r.rn hb hc ha hs topx λa ha=>Go.Proofs.YteoldcfapaiobaaGreat.DW (C w.drew) need od mx.h pk.h (λ_=>h a _ ha hs.drew (Hd.any _)) List.size_toArray
theorem DWG (k:Nat)(C:World→Prop)(need od:List Nat)(ha:Fr a n l)(hs:St W w L)[r:Rn k n Top [] L l X b c l1 ((Code.region i os.toArray true).wp P Q)][pk:PkQ Q][mx:Mixed P]
   (h:∀ a,Fr a n l1→wpO P os.toArray Q C need od os.length 0 a w.drew) (hb:b=true:=by kernel_rfl) (hc:c:=by (repeat' refine And.intro ?_ ?_) <;> first | exact True.intro | omega | exact (rfl:_=_) | decide):X a w :=
 r.rn hb hc ha hs topx λa ha=>Go.Proofs.YteoldcfapaiobaaGreat.DW C need od mx.h pk.h (λ_=>h a ha) List.size_toArray
theorem DWO (k:Nat)(need od:List Nat)(ha:Fr a n l)(hs:St W w L)[r:Rn k n Top [] L l X b c l1 ((Code.region i os.toArray true).wp P Q)][pk:PkQ Q][mx:Mixed P]
   (h:∀ a w,Fr a n l1→St W w L→Hd (Old w) L→Old w w→wpO P os.toArray Q (Old w) need od os.length 0 a w) (hb:b=true:=by kernel_rfl) (hc:c:=by (repeat' refine And.intro ?_ ?_) <;> first | exact True.intro | omega | exact (rfl:_=_) | decide):X a w :=
 r.rn hb hc ha hs topx λa ha=>Go.Proofs.YteoldcfapaiobaaGreat.DW (Old w.drew) need od mx.h pk.h (λ_=>h a _ ha hs.drew (Hd.old hs.drew) (Old.refl _)) List.size_toArray
end
section
variable {P:Program}{ops:Array Oper}{Q:Exit→Act→World→Prop}{C:World→Prop}{need:List Nat}{fuel m:Nat}{a:Act}{w:World}
def BrN (P:Program)(ops:Array Oper)(Q:Exit→Act→World→Prop)(C:World→Prop)(need:List Nat)(fuel m:Nat)(a:Act)(w:World):List (Nat×List Nat)→Prop
 | []=>True
 | (i,od)::r=>(∃ o,ops[i]?=some o∧StepK P ops Q o (CN (need.contains i) C (wpO P ops Q C need od fuel (bitOn m i))) a w)∧BrN P ops Q C need fuel m a w r
theorem BrN.get:∀ {l:List (Nat×List Nat)} {i:Nat},BrN P ops Q C need fuel m a w l→i∈l.map (·.1)→∃ (o:Oper) (od:List Nat),ops[i]?=some o∧StepK P ops Q o (CN (need.contains i) C (wpO P ops Q C need od fuel (bitOn m i))) a w
 | [],_,_,h=>by simp at h
 | (j,od)::r,i,⟨⟨o,h1,h2⟩,h3⟩,h=>by
   rw[List.map_cons]at h
   rcases List.mem_cons.1 h with rfl | h
   · exact⟨o,od,h1,h2⟩
   · exact BrN.get h3 h
theorem DN {od:List Nat}(l:List (Nat×List Nat))(hr:Region.ready .any ops (lb ops.size m)=l.map (·.1))(hne:l.isEmpty=false)(h:BrN P ops Q C need fuel m a w l):wpO P ops Q C need od (fuel+1) m a w:=by
 refine⟨λh0=>?_,λj hj=>?_⟩
 · rw[hr]at h0
   cases l with
   | nil=>cases hne
   | cons x r=>cases h0
 · rw[hr]at hj
   obtain⟨o,od,h1,h2⟩:=h.get hj
   simp only[wpOp,h1,lb_on]
   exact h2
end
end
section
abbrev pt (b:Nat):Value:=.pointer (some ⟨b,0,none⟩)
theorem Hd.at {C:World→Prop}{L:List SP}(_:Hd C L)(w:World)(h:C w):C w:=h
theorem ld1 {P:Program}{a:Act}{w:World}{n:Nat}{l:List (Nat × Value)}{x ad t v dst ty ps af g}(ha:Fr a n l)(hc:w.cell? ad=some v)[u:UOne P t][ev:Ev l x (.pointer (some ad))]:(execOp a.eval ⟨dst,.load t x,ty,ps,af,g⟩).run P w=.ok (.value v) w:=by
 obtain ⟨dd,h1,h2⟩:=u.h;exact ex_load1 ha h1 h2 hc
theorem SS {P:Program}{ops:Array Oper}{Q:Exit→Act→World→Prop}{a:Act}{w:World}{K:Act→World→Prop}{n d:Nat}{l:List (Nat × Value)}{v:Value}{op ty ps af g}(ha:Fr a n l)(hr:(execOp a.eval ⟨some d,op,ty,ps,af,g⟩).run P w=.ok (.value v) w)(h:∀ a',Fr a' n ((d,v)::l)→K a' w)(hw:Region.wanted ⟨some d,op,ty,ps,af,g⟩ (yielded ops a.tmps)=true:=by rfl)(hf:okB d n l=true:=by rfl):StepK P ops Q ⟨some d,op,ty,ps,af,g⟩ K a w:=st_set ha hw hr hf h
end
end Go.Proofs.YteoldcfapaiobaaGreat
